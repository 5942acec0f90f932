/- The texts of one claim, put together by a program of this session. -/
import Derived.Test.YtodfnelilhjoeaaBAcc1x1
import Derived.Test.YtodfnelilhjoeaaBAcc1x2
import Derived.Test.YtodfnelilhjoeaaBAcc1x4
import Derived.Test.YtodfnelilhjoeaaBAcc1x5
import Derived.Test.YtodfnelilhjoeaaBAcc1x7
namespace Go.Proofs.Ytodfnelilhjoeaa.Pr
open Go.RowKit Go.Proofs.YtodfnelilhjoeaaW.PrintWords Go.Proofs.YtodfnelilhjoeaaW.PrintLast Go.Proofs.YtodfnelilhjoeaaW.PrintMore
attribute [local go_sem] max2_int min2_int max_two min_two max_three min_three max_four min_four
set_option linter.unusedVariables false
set_option linter.unusedSimpArgs false

/-! ### spec_ShowOk: function 66 -/
mutual
def spec_ShowOk.j0 : Nat → Bool → List (S116) → List (S90) → Int → Option (Bool)
 | 0, _, _, _, _ => none
 | k + 1, x18, x66002000, x66002001, x66002002 => if x18 = true then (some false) else (spec_ShowOk.l0 k (x66002001.length : Int) 0 x66002000 x66002001 x66002002)
def spec_ShowOk.l0 : Nat → Int → Int → List (S116) → List (S90) → Int → Option (Bool)
 | 0, _, _, _, _, _ => none
 | k + 1, x21, x22, x66002000, x66002001, x66002002 => if x22 < x21 then ((spec_l08Tie.f x66002000 x66002001 x66002002 x22).bind fun t66004 => (if t66004 = true then (spec_ShowOk.l0 k x21 (wrap64 (x22 + 1)) x66002000 x66002001 x66002002) else (some false))) else (some true)
end
def spec_ShowOk.f (k : Nat) (l0_0 : List (S116)) (l0_1 : List (S90)) (a0_2 : Int) : Option (Bool) := (spec_l08Nodes.f l0_0 l0_1 a0_2).bind fun t66002 => (if t66002 = true then (if (l0_1.length : Int) > 14 then (spec_ShowOk.j0 k true l0_0 l0_1 a0_2) else ((spec_l01In.f a0_2 1 10).bind fun t66003 => (spec_ShowOk.j0 k (!t66003) l0_0 l0_1 a0_2))) else (spec_ShowOk.j0 k true l0_0 l0_1 a0_2))
set_option maxHeartbeats 8000000 in
set_option maxRecDepth 100000 in
theorem spec_ShowOk.calls (k : Nat) (A0_0 : Option Addr) (c0_0 : Nat) (l0_0 : List (S116)) (A0_1 : Option Addr) (c0_1 : Nat) (l0_1 : List (S90)) (a0_2 : Int) (r : Bool) (w : World) (hr0_0 : Kd.C k116 w A0_0 l0_0.length l0_0) (hc0_0 : l0_0.length ≤ c0_0) (hr0_1 : Kd.C k90 w A0_1 l0_1.length l0_1) (hc0_1 : l0_1.length ≤ c0_1) (h : spec_ShowOk.f k l0_0 l0_1 a0_2 = some r) :
  Calls Try.prog 66 #[.agg #[.slice A0_0 l0_0.length c0_0, .slice A0_1 l0_1.length c0_1, .int .i64 a0_2]] w fun e w' => e = .returned (.bool r) ∧ Below w.heap.size w w' := by
 have hu35 := Try.underlying35
 have HR0_0 := Aside0.mk hr0_0; have HC0_0 := Aside0.mk hc0_0; clear hr0_0 hc0_0; have HR0_1 := Aside0.mk hr0_1; have HC0_1 := Aside0.mk hc0_1; clear hr0_1 hc0_1
 have HB := Aside0.mk (Below.refl w.heap.size w)
 have H : ((spec_l08Nodes.f l0_0 l0_1 a0_2).bind fun t66002 => (if t66002 = true then (if (l0_1.length : Int) > 14 then (spec_ShowOk.j0 k true l0_0 l0_1 a0_2) else ((spec_l01In.f a0_2 1 10).bind fun t66003 => (spec_ShowOk.j0 k (!t66003) l0_0 l0_1 a0_2))) else (spec_ShowOk.j0 k true l0_0 l0_1 a0_2))) = some r := h
 clear h; have HC2 := Aside0.mk H; clear H
 go_enter Try.func66, Try.ntmps66
 go_upto_region 1 with (first | ((with_reducible refine gate_dst (N := 1) rfl ?_); (try (refine gate_guard (by rfl) ?_; dsimp only)); refine box_event ?hg (N := 1) ?hd (cs := #[.slice A0_0 l0_0.length c0_0, .slice A0_1 l0_1.length c0_1, .int .i64 a0_2]) (t := 35) ?hr ?_; (case hd => rfl); (case hg => rfl); (case hr => first | (go_simp; done) | (go_simp; rfl)); intro gb66001 hg w3 hbox hb; have n0_ := Aside0.mk (below_step (by repeat (first | (with_reducible first | exact HB.out | apply below_alloc | apply pw_below_drewN | apply below_drew1) | exact HB.out)) hb); have n1_ := Aside0.mk (hbox); have n2_ := Aside0.mk ((by rw [hg]; exact (below_size (by repeat (first | (with_reducible first | exact HB.out | apply below_alloc | apply pw_below_drewN | apply below_drew1) | exact HB.out))) : w.heap.size ≤ gb66001)); have n3_ := Aside0.mk ((by rw [hg]; exact (below_size (by repeat (first | (with_reducible first | exact HB.out | apply below_alloc | apply pw_below_drewN | apply below_drew1) | exact HB.out))) : w.heap.size ≤ gb66001)); clear HB; have HB := n0_; have BK66001 := n1_; have GW66001 := n2_; have GE66001 := n3_; clear n0_ n1_ n2_ n3_; clear hb hbox hg))
 (try simp only [Act.put, List.setIfInBounds_toArray, List.set_cons_zero, List.set_cons_succ])
 go_cut [18] (fun v18 wc => ∃ (kq : Nat) (x18_1 : Bool), v18 = .bool x18_1 ∧ Aside0 (spec_ShowOk.j0 kq x18_1 l0_0 l0_1 a0_2 = some r) ∧ Aside0 (kq ≤ k) ∧ Aside0 (wc.heap[gb66001]? = some (.cells #[(.slice A0_0 l0_0.length c0_0), (.slice A0_1 l0_1.length c0_1), .int .i64 a0_2] 35 (0, 0))) ∧ Aside0 (Below w.heap.size w wc))
 case first =>
  have H := HC2.out
  clear HC2
  replace H := Option.bind_eq_some_iff.mp H
  obtain ⟨t66002, A40, H⟩ := H; have A4 := Aside0.mk A40; clear A40
  by_cases c5 : t66002 = true
  ·subst c5
   rw [if_pos rfl] at H
   by_cases c6 : (l0_1.length : Int) > 14
   ·rw [if_pos c6] at H
    have c6b0 : decide (14 < (l0_1.length : Int)) = true := decide_eq_true c6
    clear c6
    have H' := Aside0.mk H
    clear H
    have hcz7_0 : w3.cell? ⟨gb66001, 0, none⟩ = some (.slice A0_0 l0_0.length c0_0) := (blk_cell BK66001.out 0).trans rfl
    have hcz7_1 : w3.cell? ⟨gb66001, 1, none⟩ = some (.slice A0_1 l0_1.length c0_1) := (blk_cell BK66001.out 1).trans rfl
    have hcz7_2 : w3.cell? ⟨gb66001, 2, none⟩ = some (.int .i64 a0_2) := (blk_cell BK66001.out 2).trans rfl
    have hfz7_0 := blk_frozen BK66001.out 0
    have hfz7_1 := blk_frozen BK66001.out 1
    have hfz7_2 := blk_frozen BK66001.out 2
    go_wp2_with (first | ((with_reducible refine gate_callee (f := 117) rfl ?_); refine goesL_ (some 5) rfl rfl Try.func117 (by kernel_rfl) rfl #[.agg #[.slice A0_0 l0_0.length c0_0, .slice A0_1 l0_1.length c0_1, .int .i64 a0_2]] rfl (by (try simp only [List.map_toArray, List.map_cons, List.map_nil]); first | done | rfl | (simp only [List.length_drop, List.length_take]; rfl)) ?_; (with_reducible refine (spec_l08Nodes.calls _ _ l0_0 _ _ l0_1 a0_2 true _ ?side1 ?side2 ?side3 ?side4 A4.out).mono ?_); (case side1 => repeat (first | exact (Kd.C_below HR0_0.out HB.out) | (with_reducible refine Kd.C_alloc ?_ _) | (with_reducible refine Kd.C_drewN ?_ _) | (with_reducible refine Kd.C_drew ?_))); (case side2 => exact HC0_0.out); (case side3 => repeat (first | exact (Kd.C_below HR0_1.out HB.out) | (with_reducible refine Kd.C_alloc ?_ _) | (with_reducible refine Kd.C_drewN ?_ _) | (with_reducible refine Kd.C_drew ?_))); (case side4 => exact HC0_1.out); rintro e w8 ⟨rfl, hb⟩; refine ⟨_, rfl, ?_⟩; have n0_ := Aside0.mk (blk_below (g := gb66001) (o := .cells #[.slice A0_0 l0_0.length c0_0, .slice A0_1 l0_1.length c0_1, .int .i64 a0_2] 35 (0, 0)) (by (with_reducible repeat (first | refine blk_drewN ?_ _ | refine blk_drew ?_ | refine blk_alloc ?_ _)); exact BK66001.out) hb); have n1_ := Aside0.mk (below_step (by repeat (first | (with_reducible first | exact HB.out | apply below_alloc | apply pw_below_drewN | apply below_drew1 | refine below_set ?_ GE66001.out) | exact HB.out)) hb); clear BK66001; clear HB; have BK66001 := n0_; have HB := n1_; clear n0_ n1_; have hcz9_0 : w8.cell? ⟨gb66001, 0, none⟩ = some (.slice A0_0 l0_0.length c0_0) := (blk_cell BK66001.out 0).trans rfl; have hcz9_1 : w8.cell? ⟨gb66001, 1, none⟩ = some (.slice A0_1 l0_1.length c0_1) := (blk_cell BK66001.out 1).trans rfl; have hcz9_2 : w8.cell? ⟨gb66001, 2, none⟩ = some (.int .i64 a0_2) := (blk_cell BK66001.out 2).trans rfl; have hfz9_0 := blk_frozen BK66001.out 0; have hfz9_1 := blk_frozen BK66001.out 1; have hfz9_2 := blk_frozen BK66001.out 2))
    go_meet
    case rel => exact ⟨_, (true), (by first | rfl | (simp; done) | (simp [*]; done)), H', ⟨by first | omega | exact Nat.le_refl _⟩, ⟨by (with_reducible repeat (first | refine blk_drewN ?_ _ | refine blk_drew ?_ | refine blk_alloc ?_ _)); exact BK66001.out⟩, ⟨by repeat (first | (with_reducible first | exact HB.out | apply below_alloc | apply pw_below_drewN | apply below_drew1 | refine below_set ?_ GE66001.out) | exact HB.out)⟩⟩
   ·rw [if_neg c6] at H
    have c6b0 : decide (14 < (l0_1.length : Int)) = false := decide_eq_false c6
    clear c6
    replace H := Option.bind_eq_some_iff.mp H
    obtain ⟨t66003, A100, H⟩ := H; have A10 := Aside0.mk A100; clear A100
    have H' := Aside0.mk H
    clear H
    have hcz11_0 : w3.cell? ⟨gb66001, 0, none⟩ = some (.slice A0_0 l0_0.length c0_0) := (blk_cell BK66001.out 0).trans rfl
    have hcz11_1 : w3.cell? ⟨gb66001, 1, none⟩ = some (.slice A0_1 l0_1.length c0_1) := (blk_cell BK66001.out 1).trans rfl
    have hcz11_2 : w3.cell? ⟨gb66001, 2, none⟩ = some (.int .i64 a0_2) := (blk_cell BK66001.out 2).trans rfl
    have hfz11_0 := blk_frozen BK66001.out 0
    have hfz11_1 := blk_frozen BK66001.out 1
    have hfz11_2 := blk_frozen BK66001.out 2
    go_wp2_with (first | ((with_reducible refine gate_callee (f := 117) rfl ?_); refine goesL_ (some 5) rfl rfl Try.func117 (by kernel_rfl) rfl #[.agg #[.slice A0_0 l0_0.length c0_0, .slice A0_1 l0_1.length c0_1, .int .i64 a0_2]] rfl (by (try simp only [List.map_toArray, List.map_cons, List.map_nil]); first | done | rfl | (simp only [List.length_drop, List.length_take]; rfl)) ?_; (with_reducible refine (spec_l08Nodes.calls _ _ l0_0 _ _ l0_1 a0_2 true _ ?side1 ?side2 ?side3 ?side4 A4.out).mono ?_); (case side1 => repeat (first | exact (Kd.C_below HR0_0.out HB.out) | (with_reducible refine Kd.C_alloc ?_ _) | (with_reducible refine Kd.C_drewN ?_ _) | (with_reducible refine Kd.C_drew ?_))); (case side2 => exact HC0_0.out); (case side3 => repeat (first | exact (Kd.C_below HR0_1.out HB.out) | (with_reducible refine Kd.C_alloc ?_ _) | (with_reducible refine Kd.C_drewN ?_ _) | (with_reducible refine Kd.C_drew ?_))); (case side4 => exact HC0_1.out); rintro e w12 ⟨rfl, hb⟩; refine ⟨_, rfl, ?_⟩; have n0_ := Aside0.mk (blk_below (g := gb66001) (o := .cells #[.slice A0_0 l0_0.length c0_0, .slice A0_1 l0_1.length c0_1, .int .i64 a0_2] 35 (0, 0)) (by (with_reducible repeat (first | refine blk_drewN ?_ _ | refine blk_drew ?_ | refine blk_alloc ?_ _)); exact BK66001.out) hb); have n1_ := Aside0.mk (below_step (by repeat (first | (with_reducible first | exact HB.out | apply below_alloc | apply pw_below_drewN | apply below_drew1 | refine below_set ?_ GE66001.out) | exact HB.out)) hb); clear BK66001; clear HB; have BK66001 := n0_; have HB := n1_; clear n0_ n1_; have hcz13_0 : w12.cell? ⟨gb66001, 0, none⟩ = some (.slice A0_0 l0_0.length c0_0) := (blk_cell BK66001.out 0).trans rfl; have hcz13_1 : w12.cell? ⟨gb66001, 1, none⟩ = some (.slice A0_1 l0_1.length c0_1) := (blk_cell BK66001.out 1).trans rfl; have hcz13_2 : w12.cell? ⟨gb66001, 2, none⟩ = some (.int .i64 a0_2) := (blk_cell BK66001.out 2).trans rfl; have hfz13_0 := blk_frozen BK66001.out 0; have hfz13_1 := blk_frozen BK66001.out 1; have hfz13_2 := blk_frozen BK66001.out 2) | (go_at_call 68; (with_reducible refine (spec_l01In.calls a0_2 1 10 t66003 _ A10.out).mono ?_); rintro e w' ⟨rfl, ⟨nd, rfl⟩⟩))
    go_meet
    case rel => exact ⟨_, (!t66003), (by first | rfl | (simp; done) | (simp [*]; done)), H', ⟨by first | omega | exact Nat.le_refl _⟩, ⟨by (with_reducible repeat (first | refine blk_drewN ?_ _ | refine blk_drew ?_ | refine blk_alloc ?_ _)); exact BK66001.out⟩, ⟨by repeat (first | (with_reducible first | exact HB.out | apply below_alloc | apply pw_below_drewN | apply below_drew1 | refine below_set ?_ GE66001.out) | exact HB.out)⟩⟩
  ·replace c5 := Bool.eq_false_iff.mpr c5
   subst c5
   have H1 : (spec_ShowOk.j0 k true l0_0 l0_1 a0_2) = some r := by rw [if_neg (show ¬ (false = true) by decide)] at H; exact H
   clear H
   have H := H1
   clear H1
   have H' := Aside0.mk H
   clear H
   have hcz14_0 : w3.cell? ⟨gb66001, 0, none⟩ = some (.slice A0_0 l0_0.length c0_0) := (blk_cell BK66001.out 0).trans rfl
   have hcz14_1 : w3.cell? ⟨gb66001, 1, none⟩ = some (.slice A0_1 l0_1.length c0_1) := (blk_cell BK66001.out 1).trans rfl
   have hcz14_2 : w3.cell? ⟨gb66001, 2, none⟩ = some (.int .i64 a0_2) := (blk_cell BK66001.out 2).trans rfl
   have hfz14_0 := blk_frozen BK66001.out 0
   have hfz14_1 := blk_frozen BK66001.out 1
   have hfz14_2 := blk_frozen BK66001.out 2
   go_wp2_with (first | ((with_reducible refine gate_callee (f := 117) rfl ?_); refine goesL_ (some 5) rfl rfl Try.func117 (by kernel_rfl) rfl #[.agg #[.slice A0_0 l0_0.length c0_0, .slice A0_1 l0_1.length c0_1, .int .i64 a0_2]] rfl (by (try simp only [List.map_toArray, List.map_cons, List.map_nil]); first | done | rfl | (simp only [List.length_drop, List.length_take]; rfl)) ?_; (with_reducible refine (spec_l08Nodes.calls _ _ l0_0 _ _ l0_1 a0_2 false _ ?side1 ?side2 ?side3 ?side4 A4.out).mono ?_); (case side1 => repeat (first | exact (Kd.C_below HR0_0.out HB.out) | (with_reducible refine Kd.C_alloc ?_ _) | (with_reducible refine Kd.C_drewN ?_ _) | (with_reducible refine Kd.C_drew ?_))); (case side2 => exact HC0_0.out); (case side3 => repeat (first | exact (Kd.C_below HR0_1.out HB.out) | (with_reducible refine Kd.C_alloc ?_ _) | (with_reducible refine Kd.C_drewN ?_ _) | (with_reducible refine Kd.C_drew ?_))); (case side4 => exact HC0_1.out); rintro e w15 ⟨rfl, hb⟩; refine ⟨_, rfl, ?_⟩; have n0_ := Aside0.mk (blk_below (g := gb66001) (o := .cells #[.slice A0_0 l0_0.length c0_0, .slice A0_1 l0_1.length c0_1, .int .i64 a0_2] 35 (0, 0)) (by (with_reducible repeat (first | refine blk_drewN ?_ _ | refine blk_drew ?_ | refine blk_alloc ?_ _)); exact BK66001.out) hb); have n1_ := Aside0.mk (below_step (by repeat (first | (with_reducible first | exact HB.out | apply below_alloc | apply pw_below_drewN | apply below_drew1 | refine below_set ?_ GE66001.out) | exact HB.out)) hb); clear BK66001; clear HB; have BK66001 := n0_; have HB := n1_; clear n0_ n1_; (try clear hi)))
   go_meet
   case rel => exact ⟨_, (true), (by first | rfl | (simp; done) | (simp [*]; done)), H', ⟨by first | omega | exact Nat.le_refl _⟩, ⟨by (with_reducible repeat (first | refine blk_drewN ?_ _ | refine blk_drew ?_ | refine blk_alloc ?_ _)); exact BK66001.out⟩, ⟨by repeat (first | (with_reducible first | exact HB.out | apply below_alloc | apply pw_below_drewN | apply below_drew1 | refine below_set ?_ GE66001.out) | exact HB.out)⟩⟩
 case rest =>
  clear HC2
  try clear c1
  try clear p2
  try clear c5
  try clear c6
  try clear c6b0
  try clear c6b1
  try clear c11
  try clear hcz11_0
  try clear hcz11_1
  try clear hcz11_2
  try clear hcz13_0
  try clear hcz13_1
  try clear hcz13_2
  try clear hcz14_0
  try clear hcz14_1
  try clear hcz14_2
  try clear hcz7_0
  try clear hcz7_1
  try clear hcz7_2
  try clear hcz9_0
  try clear hcz9_1
  try clear hcz9_2
  try clear hfz11_0
  try clear hfz11_1
  try clear hfz11_2
  try clear hfz13_0
  try clear hfz13_1
  try clear hfz13_2
  try clear hfz14_0
  try clear hfz14_1
  try clear hfz14_2
  try clear hfz7_0
  try clear hfz7_1
  try clear hfz7_2
  try clear hfz9_0
  try clear hfz9_1
  try clear hfz9_2
  obtain ⟨kq, x18_1, rfl, HA, HJ1, BK66001, HB⟩ := hcut
  cases kq with
  | zero => exact absurd HA.out (by simp [spec_ShowOk.j0])
  | succ kj1 =>
   have H := HA.out
   clear HA
   simp only [spec_ShowOk.j0] at H
   by_cases c16 : x18_1 = true
   ·subst c16
    rw [if_pos rfl] at H
    obtain rfl := Option.some.inj H
    go_wp2
    go_ret
    exact ⟨by first | rfl | (simp [errW_none, errW_some] <;> rfl) | (simp [*, errW_none, errW_some] <;> rfl), by repeat (first | (with_reducible first | exact HB.out | apply below_alloc | apply pw_below_drewN | apply below_drew1 | refine below_set ?_ GE66001.out) | exact HB.out)⟩
   ·replace c16 := Bool.eq_false_iff.mpr c16
    subst c16
    have H1 : (spec_ShowOk.l0 kj1 (l0_1.length : Int) 0 l0_0 l0_1 a0_2) = some r := by rw [if_neg (show ¬ (false = true) by decide)] at H; exact H
    clear H
    have H := H1
    clear H1
    have H' := Aside0.mk H
    clear H
    have hcz17_0 : wc.cell? ⟨gb66001, 0, none⟩ = some (.slice A0_0 l0_0.length c0_0) := (blk_cell BK66001.out 0).trans rfl
    have hcz17_1 : wc.cell? ⟨gb66001, 1, none⟩ = some (.slice A0_1 l0_1.length c0_1) := (blk_cell BK66001.out 1).trans rfl
    have hcz17_2 : wc.cell? ⟨gb66001, 2, none⟩ = some (.int .i64 a0_2) := (blk_cell BK66001.out 2).trans rfl
    have hfz17_0 := blk_frozen BK66001.out 0
    have hfz17_1 := blk_frozen BK66001.out 1
    have hfz17_2 := blk_frozen BK66001.out 2
    go_wp2
    go_loopg [22] kj1 (fun kq v22 w' => ∃ (x22_2 : Int), v22 = .int .i64 x22_2 ∧ Aside0 (spec_ShowOk.l0 kq (l0_1.length : Int) x22_2 l0_0 l0_1 a0_2 = some r) ∧ Aside0 (kq ≤ kj1) ∧ Aside0 (w'.heap[gb66001]? = some (.cells #[(.slice A0_0 l0_0.length c0_0), (.slice A0_1 l0_1.length c0_1), .int .i64 a0_2] 35 (0, 0))) ∧ Aside0 (Below w.heap.size w w'))
    case atStart => exact ⟨(0), (by first | rfl | (simp; done) | (simp [*]; done)), H', ⟨Nat.le_refl _⟩, ⟨by (with_reducible repeat (first | refine blk_drewN ?_ _ | refine blk_drew ?_ | refine blk_alloc ?_ _)); exact BK66001.out⟩, ⟨by repeat (first | (with_reducible first | exact HB.out | apply below_alloc | apply pw_below_drewN | apply below_drew1 | refine below_set ?_ GE66001.out) | exact HB.out)⟩⟩
    case round =>
     clear H'
     try clear c1
     try clear p2
     try clear c5
     try clear c6
     try clear c6b0
     try clear c6b1
     try clear c11
     try clear c16
     try clear hcz11_0
     try clear hcz11_1
     try clear hcz11_2
     try clear hcz13_0
     try clear hcz13_1
     try clear hcz13_2
     try clear hcz14_0
     try clear hcz14_1
     try clear hcz14_2
     try clear hcz17_0
     try clear hcz17_1
     try clear hcz17_2
     try clear hcz7_0
     try clear hcz7_1
     try clear hcz7_2
     try clear hcz9_0
     try clear hcz9_1
     try clear hcz9_2
     try clear hfz11_0
     try clear hfz11_1
     try clear hfz11_2
     try clear hfz13_0
     try clear hfz13_1
     try clear hfz13_2
     try clear hfz14_0
     try clear hfz14_1
     try clear hfz14_2
     try clear hfz17_0
     try clear hfz17_1
     try clear hfz17_2
     try clear hfz7_0
     try clear hfz7_1
     try clear hfz7_2
     try clear hfz9_0
     try clear hfz9_1
     try clear hfz9_2
     try clear p2
     obtain ⟨x22_2, rfl, HA, HK2, BK66001, HB⟩ := hrel
     cases gk with
     | zero => exact absurd HA.out (by simp [spec_ShowOk.l0])
     | succ k2 =>
      have H := HA.out
      clear HA
      simp only [spec_ShowOk.l0] at H
      by_cases c18 : x22_2 < (l0_1.length : Int)
      ·rw [if_pos c18] at H
       have c18b0 : decide (x22_2 < (l0_1.length : Int)) = true := decide_eq_true c18
       clear c18
       replace H := Option.bind_eq_some_iff.mp H
       obtain ⟨t66004, A190, H⟩ := H; have A19 := Aside0.mk A190; clear A190
       by_cases c20 : t66004 = true
       ·subst c20
        rw [if_pos rfl] at H
        have H' := Aside0.mk H
        clear H
        have hcz21_0 : wr.cell? ⟨gb66001, 0, none⟩ = some (.slice A0_0 l0_0.length c0_0) := (blk_cell BK66001.out 0).trans rfl
        have hcz21_1 : wr.cell? ⟨gb66001, 1, none⟩ = some (.slice A0_1 l0_1.length c0_1) := (blk_cell BK66001.out 1).trans rfl
        have hcz21_2 : wr.cell? ⟨gb66001, 2, none⟩ = some (.int .i64 a0_2) := (blk_cell BK66001.out 2).trans rfl
        have hfz21_0 := blk_frozen BK66001.out 0
        have hfz21_1 := blk_frozen BK66001.out 1
        have hfz21_2 := blk_frozen BK66001.out 2
        go_wp2_with (first | ((with_reducible refine gate_callee (f := 118) rfl ?_); refine goesL_ (some 27) rfl rfl Try.func118 (by kernel_rfl) rfl #[.agg #[.slice A0_0 l0_0.length c0_0, .slice A0_1 l0_1.length c0_1, .int .i64 a0_2], .int .i64 x22_2] rfl (by (try simp only [List.map_toArray, List.map_cons, List.map_nil]); first | done | rfl | (simp only [List.length_drop, List.length_take]; rfl)) ?_; (with_reducible refine (spec_l08Tie.calls _ _ l0_0 _ _ l0_1 a0_2 x22_2 true _ ?side1 ?side2 ?side3 ?side4 A19.out).mono ?_); (case side1 => repeat (first | exact (Kd.C_below HR0_0.out HB.out) | (with_reducible refine Kd.C_alloc ?_ _) | (with_reducible refine Kd.C_drewN ?_ _) | (with_reducible refine Kd.C_drew ?_))); (case side2 => exact HC0_0.out); (case side3 => repeat (first | exact (Kd.C_below HR0_1.out HB.out) | (with_reducible refine Kd.C_alloc ?_ _) | (with_reducible refine Kd.C_drewN ?_ _) | (with_reducible refine Kd.C_drew ?_))); (case side4 => exact HC0_1.out); rintro e w22 ⟨rfl, hb⟩; refine ⟨_, rfl, ?_⟩; have n0_ := Aside0.mk (blk_below (g := gb66001) (o := .cells #[.slice A0_0 l0_0.length c0_0, .slice A0_1 l0_1.length c0_1, .int .i64 a0_2] 35 (0, 0)) (by (with_reducible repeat (first | refine blk_drewN ?_ _ | refine blk_drew ?_ | refine blk_alloc ?_ _)); exact BK66001.out) hb); have n1_ := Aside0.mk (below_step (by repeat (first | (with_reducible first | exact HB.out | apply below_alloc | apply pw_below_drewN | apply below_drew1 | refine below_set ?_ GE66001.out) | exact HB.out)) hb); clear BK66001; clear HB; have BK66001 := n0_; have HB := n1_; clear n0_ n1_; (try clear hi)))
        go_roundg k2
        case measure => have := HJ1.out; have := HK2.out; omega
        case rel => exact ⟨(wrap64 (x22_2 + 1)), (by first | rfl | (simp; done) | (simp [*]; done)), H', ⟨by have := HJ1.out; have := HK2.out; omega⟩, ⟨by (with_reducible repeat (first | refine blk_drewN ?_ _ | refine blk_drew ?_ | refine blk_alloc ?_ _)); exact BK66001.out⟩, ⟨by repeat (first | (with_reducible first | exact HB.out | apply below_alloc | apply pw_below_drewN | apply below_drew1 | refine below_set ?_ GE66001.out) | exact HB.out)⟩⟩
       ·replace c20 := Bool.eq_false_iff.mpr c20
        subst c20
        have H1 : (some false) = some r := by rw [if_neg (show ¬ (false = true) by decide)] at H; exact H
        clear H
        have H := H1
        clear H1
        obtain rfl := Option.some.inj H
        have hcz23_0 : wr.cell? ⟨gb66001, 0, none⟩ = some (.slice A0_0 l0_0.length c0_0) := (blk_cell BK66001.out 0).trans rfl
        have hcz23_1 : wr.cell? ⟨gb66001, 1, none⟩ = some (.slice A0_1 l0_1.length c0_1) := (blk_cell BK66001.out 1).trans rfl
        have hcz23_2 : wr.cell? ⟨gb66001, 2, none⟩ = some (.int .i64 a0_2) := (blk_cell BK66001.out 2).trans rfl
        have hfz23_0 := blk_frozen BK66001.out 0
        have hfz23_1 := blk_frozen BK66001.out 1
        have hfz23_2 := blk_frozen BK66001.out 2
        go_wp2_with (first | ((with_reducible refine gate_callee (f := 118) rfl ?_); refine goesL_ (some 27) rfl rfl Try.func118 (by kernel_rfl) rfl #[.agg #[.slice A0_0 l0_0.length c0_0, .slice A0_1 l0_1.length c0_1, .int .i64 a0_2], .int .i64 x22_2] rfl (by (try simp only [List.map_toArray, List.map_cons, List.map_nil]); first | done | rfl | (simp only [List.length_drop, List.length_take]; rfl)) ?_; (with_reducible refine (spec_l08Tie.calls _ _ l0_0 _ _ l0_1 a0_2 x22_2 false _ ?side1 ?side2 ?side3 ?side4 A19.out).mono ?_); (case side1 => repeat (first | exact (Kd.C_below HR0_0.out HB.out) | (with_reducible refine Kd.C_alloc ?_ _) | (with_reducible refine Kd.C_drewN ?_ _) | (with_reducible refine Kd.C_drew ?_))); (case side2 => exact HC0_0.out); (case side3 => repeat (first | exact (Kd.C_below HR0_1.out HB.out) | (with_reducible refine Kd.C_alloc ?_ _) | (with_reducible refine Kd.C_drewN ?_ _) | (with_reducible refine Kd.C_drew ?_))); (case side4 => exact HC0_1.out); rintro e w24 ⟨rfl, hb⟩; refine ⟨_, rfl, ?_⟩; have n0_ := Aside0.mk (blk_below (g := gb66001) (o := .cells #[.slice A0_0 l0_0.length c0_0, .slice A0_1 l0_1.length c0_1, .int .i64 a0_2] 35 (0, 0)) (by (with_reducible repeat (first | refine blk_drewN ?_ _ | refine blk_drew ?_ | refine blk_alloc ?_ _)); exact BK66001.out) hb); have n1_ := Aside0.mk (below_step (by repeat (first | (with_reducible first | exact HB.out | apply below_alloc | apply pw_below_drewN | apply below_drew1 | refine below_set ?_ GE66001.out) | exact HB.out)) hb); clear BK66001; clear HB; have BK66001 := n0_; have HB := n1_; clear n0_ n1_; (try clear hi)))
        go_ret
        exact ⟨by first | rfl | (simp [errW_none, errW_some] <;> rfl) | (simp [*, errW_none, errW_some] <;> rfl), by repeat (first | (with_reducible first | exact HB.out | apply below_alloc | apply pw_below_drewN | apply below_drew1 | refine below_set ?_ GE66001.out) | exact HB.out)⟩
      ·rw [if_neg c18] at H
       have c18b0 : decide (x22_2 < (l0_1.length : Int)) = false := decide_eq_false c18
       clear c18
       obtain rfl := Option.some.inj H
       go_wp2
       go_ret
       exact ⟨by first | rfl | (simp [errW_none, errW_some] <;> rfl) | (simp [*, errW_none, errW_some] <;> rfl), by repeat (first | (with_reducible first | exact HB.out | apply below_alloc | apply pw_below_drewN | apply below_drew1 | refine below_set ?_ GE66001.out) | exact HB.out)⟩

end Go.Proofs.Ytodfnelilhjoeaa.Pr

namespace Go.Proofs.Ytodfnelilhjoeaa.Pr
open Go.RowKit Go.Proofs.YtodfnelilhjoeaaW.PrintWords Go.Proofs.YtodfnelilhjoeaaW.PrintLast Go.Proofs.YtodfnelilhjoeaaW.PrintMore
attribute [local go_sem] max2_int min2_int max_two min_two max_three min_three max_four min_four
set_option linter.unusedVariables false
set_option linter.unusedSimpArgs false

/-! ### spec_StateOk: function 95 -/
mutual
def spec_StateOk.j0 : Nat → Bool → List (S116) → List (S90) → Int → Int → List Int → List Int → Option (Bool)
 | 0, _, _, _, _, _, _, _ => none
 | k + 1, x42, x95002000, x95002001, x95002002, x95003000, x95003001, x95003002 => if x42 = true then (some false) else (spec_StateOk.l0 k x95003001 (x95003001.length : Int) 0 x95002000 x95002001 x95002002 x95003000 x95003001 x95003002)
def spec_StateOk.l0 : Nat → List Int → Int → Int → List (S116) → List (S90) → Int → Int → List Int → List Int → Option (Bool)
 | 0, _, _, _, _, _, _, _, _, _ => none
 | k + 1, x44, x45, x46, x95002000, x95002001, x95002002, x95003000, x95003001, x95003002 => if x46 < x45 then (if 0 ≤ x46 then (if x46 < (x44.length : Int) then (if x46 > 0 then ((spec_l01In.f (rd x44 x46) (-1) (wrap64 (x95003000 - 1))).bind fun t95008 => (if t95008 = true then (spec_StateOk.l0 k x44 x45 (wrap64 (x46 + 1)) x95002000 x95002001 x95002002 x95003000 x95003001 x95003002) else (some false))) else (spec_StateOk.l0 k x44 x45 (wrap64 (x46 + 1)) x95002000 x95002001 x95002002 x95003000 x95003001 x95003002)) else (none)) else (none)) else (spec_StateOk.l1 k 1 x95002000 x95002001 x95002002 x95003000 x95003001 x95003002)
def spec_StateOk.l1 : Nat → Int → List (S116) → List (S90) → Int → Int → List Int → List Int → Option (Bool)
 | 0, _, _, _, _, _, _, _ => none
 | k + 1, x7, x95002000, x95002001, x95002002, x95003000, x95003001, x95003002 => if x7 ≤ 3 then ((spec_l08Watcher.f k x95002000 x95002001 x95002002 x7).bind fun t95009 => (if 0 ≤ (wrap64 (x7 - 1)) then (if (wrap64 (x7 - 1)) < (x95003002.length : Int) then (if t95009 ≥ 0 then (if 0 ≤ t95009 then (if t95009 < (x95003001.length : Int) then (if (((rd x95003002 (wrap64 (x7 - 1))) != 0) != ((rd x95003001 t95009) != (-1))) = true then (some false) else (spec_StateOk.l1 k (wrap64 (x7 + 1)) x95002000 x95002001 x95002002 x95003000 x95003001 x95003002)) else (none)) else (none)) else (if (((rd x95003002 (wrap64 (x7 - 1))) != 0) != false) = true then (some false) else (spec_StateOk.l1 k (wrap64 (x7 + 1)) x95002000 x95002001 x95002002 x95003000 x95003001 x95003002))) else (none)) else (none))) else (some true)
end
def spec_StateOk.f (k : Nat) (l0_0 : List (S116)) (l0_1 : List (S90)) (a0_2 : Int) (a1_0 : Int) (l1_1 : List Int) (l1_2 : List Int) : Option (Bool) := (spec_ShowOk.f k l0_0 l0_1 a0_2).bind fun t95003 => (if t95003 = true then ((spec_l01In.f a1_0 0 (wrap64 (a0_2 + 1))).bind fun t95004 => (if t95004 = true then (if (l1_1.length : Int) = (l0_0.length : Int) then (if 0 < (l1_1.length : Int) then (if (rd l1_1 0) = 0 then ((spec_ValuesOk.f k l1_2).bind fun t95006 => (spec_StateOk.j0 k (!t95006) l0_0 l0_1 a0_2 a1_0 l1_1 l1_2)) else (spec_StateOk.j0 k true l0_0 l0_1 a0_2 a1_0 l1_1 l1_2)) else (none)) else (spec_StateOk.j0 k true l0_0 l0_1 a0_2 a1_0 l1_1 l1_2)) else (spec_StateOk.j0 k true l0_0 l0_1 a0_2 a1_0 l1_1 l1_2))) else (spec_StateOk.j0 k true l0_0 l0_1 a0_2 a1_0 l1_1 l1_2))
set_option maxHeartbeats 8000000 in
set_option maxRecDepth 100000 in
theorem spec_StateOk.calls (k : Nat) (A0_0 : Option Addr) (c0_0 : Nat) (l0_0 : List (S116)) (A0_1 : Option Addr) (c0_1 : Nat) (l0_1 : List (S90)) (a0_2 : Int) (a1_0 : Int) (A1_1 : Option Addr) (c1_1 : Nat) (l1_1 : List Int) (A1_2 : Option Addr) (c1_2 : Nat) (l1_2 : List Int) (r : Bool) (w : World) (hr0_0 : Kd.C k116 w A0_0 l0_0.length l0_0) (hc0_0 : l0_0.length ≤ c0_0) (hr0_1 : Kd.C k90 w A0_1 l0_1.length l0_1) (hc0_1 : l0_1.length ≤ c0_1) (hr1_1 : Kd.C (Kd.int .i64) w A1_1 l1_1.length l1_1) (hc1_1 : l1_1.length ≤ c1_1) (hr1_2 : Kd.C (Kd.int .i64) w A1_2 l1_2.length l1_2) (hc1_2 : l1_2.length ≤ c1_2) (h : spec_StateOk.f k l0_0 l0_1 a0_2 a1_0 l1_1 l1_2 = some r) :
  Calls Try.prog 95 #[.agg #[.slice A0_0 l0_0.length c0_0, .slice A0_1 l0_1.length c0_1, .int .i64 a0_2], .agg #[.int .i64 a1_0, .slice A1_1 l1_1.length c1_1, .slice A1_2 l1_2.length c1_2]] w fun e w' => e = .returned (.bool r) ∧ Below w.heap.size w w' := by
 have hu35 := Try.underlying35
 have hu66 := Try.underlying66
 have HR0_0 := Aside0.mk hr0_0; have HC0_0 := Aside0.mk hc0_0; clear hr0_0 hc0_0; have HR0_1 := Aside0.mk hr0_1; have HC0_1 := Aside0.mk hc0_1; clear hr0_1 hc0_1; have HR1_1 := Aside0.mk hr1_1; have HC1_1 := Aside0.mk hc1_1; clear hr1_1 hc1_1; have HR1_2 := Aside0.mk hr1_2; have HC1_2 := Aside0.mk hc1_2; clear hr1_2 hc1_2
 have HB := Aside0.mk (Below.refl w.heap.size w)
 have H : ((spec_ShowOk.f k l0_0 l0_1 a0_2).bind fun t95003 => (if t95003 = true then ((spec_l01In.f a1_0 0 (wrap64 (a0_2 + 1))).bind fun t95004 => (if t95004 = true then (if (l1_1.length : Int) = (l0_0.length : Int) then (if 0 < (l1_1.length : Int) then (if (rd l1_1 0) = 0 then ((spec_ValuesOk.f k l1_2).bind fun t95006 => (spec_StateOk.j0 k (!t95006) l0_0 l0_1 a0_2 a1_0 l1_1 l1_2)) else (spec_StateOk.j0 k true l0_0 l0_1 a0_2 a1_0 l1_1 l1_2)) else (none)) else (spec_StateOk.j0 k true l0_0 l0_1 a0_2 a1_0 l1_1 l1_2)) else (spec_StateOk.j0 k true l0_0 l0_1 a0_2 a1_0 l1_1 l1_2))) else (spec_StateOk.j0 k true l0_0 l0_1 a0_2 a1_0 l1_1 l1_2))) = some r := h
 clear h; have HC3 := Aside0.mk H; clear H
 go_enter Try.func95, Try.ntmps95
 go_upto_region 1 with (first | ((with_reducible refine gate_dst (N := 2) rfl ?_); refine box_event ?hg (N := 2) ?hd (cs := #[.slice A0_0 l0_0.length c0_0, .slice A0_1 l0_1.length c0_1, .int .i64 a0_2]) (t := 35) ?hr ?_; (case hd => rfl); (case hg => rfl); (case hr => first | (go_simp; done) | (go_simp; rfl)); intro gb95001 hg w4 hbox hb; have n0_ := Aside0.mk (below_step (by repeat (first | (with_reducible first | exact HB.out | apply below_alloc | apply pw_below_drewN | apply below_drew1) | exact HB.out)) hb); have n1_ := Aside0.mk (hbox); have n2_ := Aside0.mk ((by rw [hg]; exact (below_size (by repeat (first | (with_reducible first | exact HB.out | apply below_alloc | apply pw_below_drewN | apply below_drew1) | exact HB.out))) : w.heap.size ≤ gb95001)); have n3_ := Aside0.mk ((by rw [hg]; exact (below_size (by repeat (first | (with_reducible first | exact HB.out | apply below_alloc | apply pw_below_drewN | apply below_drew1) | exact HB.out))) : w.heap.size ≤ gb95001)); clear HB; have HB := n0_; have BK95001 := n1_; have GW95001 := n2_; have GE95001 := n3_; clear n0_ n1_ n2_ n3_; clear hb hbox hg) | ((with_reducible refine gate_dst (N := 3) rfl ?_); refine box_event ?hg (N := 3) ?hd (cs := #[.int .i64 a1_0, .slice A1_1 l1_1.length c1_1, .slice A1_2 l1_2.length c1_2]) (t := 66) ?hr ?_; (case hd => rfl); (case hg => rfl); (case hr => first | (go_simp; done) | (go_simp; rfl)); intro gb95002 hg w5 hbox hb; have n0_ := Aside0.mk (blk_below (g := gb95001) (o := .cells #[.slice A0_0 l0_0.length c0_0, .slice A0_1 l0_1.length c0_1, .int .i64 a0_2] 35 (0, 0)) (by (with_reducible repeat (first | refine blk_drewN ?_ _ | refine blk_drew ?_ | refine blk_alloc ?_ _)); exact BK95001.out) hb); have n1_ := Aside0.mk (below_step (by repeat (first | (with_reducible first | exact HB.out | apply below_alloc | apply pw_below_drewN | apply below_drew1 | refine below_set ?_ GE95001.out) | exact HB.out)) hb); have n2_ := Aside0.mk (hbox); have n3_ := Aside0.mk ((by rw [hg]; exact (below_size (by repeat (first | (with_reducible first | exact HB.out | apply below_alloc | apply pw_below_drewN | apply below_drew1 | refine below_set ?_ GE95001.out) | exact HB.out))) : w.heap.size ≤ gb95002)); have n4_ := Aside0.mk ((by rw [hg]; exact (below_size (by repeat (first | (with_reducible first | exact HB.out | apply below_alloc | apply pw_below_drewN | apply below_drew1 | refine below_set ?_ GE95001.out) | exact HB.out))) : w.heap.size ≤ gb95002)); have n5_ := Aside0.mk ((by rw [hg]; exact Nat.ne_of_lt (blk_lt (g := gb95001) (o := .cells #[.slice A0_0 l0_0.length c0_0, .slice A0_1 l0_1.length c0_1, .int .i64 a0_2] 35 (0, 0)) (by (with_reducible repeat (first | refine blk_drewN ?_ _ | refine blk_drew ?_ | refine blk_alloc ?_ _)); exact BK95001.out)) : gb95001 ≠ gb95002)); have n6_ := Aside0.mk ((by rw [hg]; exact Nat.ne_of_gt (blk_lt (g := gb95001) (o := .cells #[.slice A0_0 l0_0.length c0_0, .slice A0_1 l0_1.length c0_1, .int .i64 a0_2] 35 (0, 0)) (by (with_reducible repeat (first | refine blk_drewN ?_ _ | refine blk_drew ?_ | refine blk_alloc ?_ _)); exact BK95001.out)) : gb95002 ≠ gb95001)); clear BK95001; clear HB; have BK95001 := n0_; have HB := n1_; have BK95002 := n2_; have GW95002 := n3_; have GE95002 := n4_; have NB95001_95002 := n5_; have NB95002_95001 := n6_; clear n0_ n1_ n2_ n3_ n4_ n5_ n6_; clear hb hbox hg))
 repeat (go_quiet (first | ((with_reducible refine gate_dst (N := 2) rfl ?_); refine box_event ?hg (N := 2) ?hd (cs := #[.slice A0_0 l0_0.length c0_0, .slice A0_1 l0_1.length c0_1, .int .i64 a0_2]) (t := 35) ?hr ?_; (case hd => rfl); (case hg => rfl); (case hr => first | (go_simp; done) | (go_simp; rfl)); intro gb95001 hg w4 hbox hb; have n0_ := Aside0.mk (below_step (by repeat (first | (with_reducible first | exact HB.out | apply below_alloc | apply pw_below_drewN | apply below_drew1) | exact HB.out)) hb); have n1_ := Aside0.mk (hbox); have n2_ := Aside0.mk ((by rw [hg]; exact (below_size (by repeat (first | (with_reducible first | exact HB.out | apply below_alloc | apply pw_below_drewN | apply below_drew1) | exact HB.out))) : w.heap.size ≤ gb95001)); have n3_ := Aside0.mk ((by rw [hg]; exact (below_size (by repeat (first | (with_reducible first | exact HB.out | apply below_alloc | apply pw_below_drewN | apply below_drew1) | exact HB.out))) : w.heap.size ≤ gb95001)); clear HB; have HB := n0_; have BK95001 := n1_; have GW95001 := n2_; have GE95001 := n3_; clear n0_ n1_ n2_ n3_; clear hb hbox hg) | ((with_reducible refine gate_dst (N := 3) rfl ?_); refine box_event ?hg (N := 3) ?hd (cs := #[.int .i64 a1_0, .slice A1_1 l1_1.length c1_1, .slice A1_2 l1_2.length c1_2]) (t := 66) ?hr ?_; (case hd => rfl); (case hg => rfl); (case hr => first | (go_simp; done) | (go_simp; rfl)); intro gb95002 hg w5 hbox hb; have n0_ := Aside0.mk (blk_below (g := gb95001) (o := .cells #[.slice A0_0 l0_0.length c0_0, .slice A0_1 l0_1.length c0_1, .int .i64 a0_2] 35 (0, 0)) (by (with_reducible repeat (first | refine blk_drewN ?_ _ | refine blk_drew ?_ | refine blk_alloc ?_ _)); exact BK95001.out) hb); have n1_ := Aside0.mk (below_step (by repeat (first | (with_reducible first | exact HB.out | apply below_alloc | apply pw_below_drewN | apply below_drew1 | refine below_set ?_ GE95001.out) | exact HB.out)) hb); have n2_ := Aside0.mk (hbox); have n3_ := Aside0.mk ((by rw [hg]; exact (below_size (by repeat (first | (with_reducible first | exact HB.out | apply below_alloc | apply pw_below_drewN | apply below_drew1 | refine below_set ?_ GE95001.out) | exact HB.out))) : w.heap.size ≤ gb95002)); have n4_ := Aside0.mk ((by rw [hg]; exact (below_size (by repeat (first | (with_reducible first | exact HB.out | apply below_alloc | apply pw_below_drewN | apply below_drew1 | refine below_set ?_ GE95001.out) | exact HB.out))) : w.heap.size ≤ gb95002)); have n5_ := Aside0.mk ((by rw [hg]; exact Nat.ne_of_lt (blk_lt (g := gb95001) (o := .cells #[.slice A0_0 l0_0.length c0_0, .slice A0_1 l0_1.length c0_1, .int .i64 a0_2] 35 (0, 0)) (by (with_reducible repeat (first | refine blk_drewN ?_ _ | refine blk_drew ?_ | refine blk_alloc ?_ _)); exact BK95001.out)) : gb95001 ≠ gb95002)); have n6_ := Aside0.mk ((by rw [hg]; exact Nat.ne_of_gt (blk_lt (g := gb95001) (o := .cells #[.slice A0_0 l0_0.length c0_0, .slice A0_1 l0_1.length c0_1, .int .i64 a0_2] 35 (0, 0)) (by (with_reducible repeat (first | refine blk_drewN ?_ _ | refine blk_drew ?_ | refine blk_alloc ?_ _)); exact BK95001.out)) : gb95002 ≠ gb95001)); clear BK95001; clear HB; have BK95001 := n0_; have HB := n1_; have BK95002 := n2_; have GW95002 := n3_; have GE95002 := n4_; have NB95001_95002 := n5_; have NB95002_95001 := n6_; clear n0_ n1_ n2_ n3_ n4_ n5_ n6_; clear hb hbox hg)); go_upto_region 1 with (first | ((with_reducible refine gate_dst (N := 2) rfl ?_); refine box_event ?hg (N := 2) ?hd (cs := #[.slice A0_0 l0_0.length c0_0, .slice A0_1 l0_1.length c0_1, .int .i64 a0_2]) (t := 35) ?hr ?_; (case hd => rfl); (case hg => rfl); (case hr => first | (go_simp; done) | (go_simp; rfl)); intro gb95001 hg w4 hbox hb; have n0_ := Aside0.mk (below_step (by repeat (first | (with_reducible first | exact HB.out | apply below_alloc | apply pw_below_drewN | apply below_drew1) | exact HB.out)) hb); have n1_ := Aside0.mk (hbox); have n2_ := Aside0.mk ((by rw [hg]; exact (below_size (by repeat (first | (with_reducible first | exact HB.out | apply below_alloc | apply pw_below_drewN | apply below_drew1) | exact HB.out))) : w.heap.size ≤ gb95001)); have n3_ := Aside0.mk ((by rw [hg]; exact (below_size (by repeat (first | (with_reducible first | exact HB.out | apply below_alloc | apply pw_below_drewN | apply below_drew1) | exact HB.out))) : w.heap.size ≤ gb95001)); clear HB; have HB := n0_; have BK95001 := n1_; have GW95001 := n2_; have GE95001 := n3_; clear n0_ n1_ n2_ n3_; clear hb hbox hg) | ((with_reducible refine gate_dst (N := 3) rfl ?_); refine box_event ?hg (N := 3) ?hd (cs := #[.int .i64 a1_0, .slice A1_1 l1_1.length c1_1, .slice A1_2 l1_2.length c1_2]) (t := 66) ?hr ?_; (case hd => rfl); (case hg => rfl); (case hr => first | (go_simp; done) | (go_simp; rfl)); intro gb95002 hg w5 hbox hb; have n0_ := Aside0.mk (blk_below (g := gb95001) (o := .cells #[.slice A0_0 l0_0.length c0_0, .slice A0_1 l0_1.length c0_1, .int .i64 a0_2] 35 (0, 0)) (by (with_reducible repeat (first | refine blk_drewN ?_ _ | refine blk_drew ?_ | refine blk_alloc ?_ _)); exact BK95001.out) hb); have n1_ := Aside0.mk (below_step (by repeat (first | (with_reducible first | exact HB.out | apply below_alloc | apply pw_below_drewN | apply below_drew1 | refine below_set ?_ GE95001.out) | exact HB.out)) hb); have n2_ := Aside0.mk (hbox); have n3_ := Aside0.mk ((by rw [hg]; exact (below_size (by repeat (first | (with_reducible first | exact HB.out | apply below_alloc | apply pw_below_drewN | apply below_drew1 | refine below_set ?_ GE95001.out) | exact HB.out))) : w.heap.size ≤ gb95002)); have n4_ := Aside0.mk ((by rw [hg]; exact (below_size (by repeat (first | (with_reducible first | exact HB.out | apply below_alloc | apply pw_below_drewN | apply below_drew1 | refine below_set ?_ GE95001.out) | exact HB.out))) : w.heap.size ≤ gb95002)); have n5_ := Aside0.mk ((by rw [hg]; exact Nat.ne_of_lt (blk_lt (g := gb95001) (o := .cells #[.slice A0_0 l0_0.length c0_0, .slice A0_1 l0_1.length c0_1, .int .i64 a0_2] 35 (0, 0)) (by (with_reducible repeat (first | refine blk_drewN ?_ _ | refine blk_drew ?_ | refine blk_alloc ?_ _)); exact BK95001.out)) : gb95001 ≠ gb95002)); have n6_ := Aside0.mk ((by rw [hg]; exact Nat.ne_of_gt (blk_lt (g := gb95001) (o := .cells #[.slice A0_0 l0_0.length c0_0, .slice A0_1 l0_1.length c0_1, .int .i64 a0_2] 35 (0, 0)) (by (with_reducible repeat (first | refine blk_drewN ?_ _ | refine blk_drew ?_ | refine blk_alloc ?_ _)); exact BK95001.out)) : gb95002 ≠ gb95001)); clear BK95001; clear HB; have BK95001 := n0_; have HB := n1_; have BK95002 := n2_; have GW95002 := n3_; have GE95002 := n4_; have NB95001_95002 := n5_; have NB95002_95001 := n6_; clear n0_ n1_ n2_ n3_ n4_ n5_ n6_; clear hb hbox hg)))
 (try simp only [Act.put, List.setIfInBounds_toArray, List.set_cons_zero, List.set_cons_succ])
 go_cut [42] (fun v42 wc => ∃ (kq : Nat) (x42_2 : Bool), v42 = .bool x42_2 ∧ Aside0 (spec_StateOk.j0 kq x42_2 l0_0 l0_1 a0_2 a1_0 l1_1 l1_2 = some r) ∧ Aside0 (kq ≤ k) ∧ Aside0 (wc.heap[gb95001]? = some (.cells #[(.slice A0_0 l0_0.length c0_0), (.slice A0_1 l0_1.length c0_1), .int .i64 a0_2] 35 (0, 0))) ∧ Aside0 (wc.heap[gb95002]? = some (.cells #[.int .i64 a1_0, (.slice A1_1 l1_1.length c1_1), (.slice A1_2 l1_2.length c1_2)] 66 (0, 0))) ∧ Aside0 (Below w.heap.size w wc))
 case first =>
  have H := HC3.out
  clear HC3
  replace H := Option.bind_eq_some_iff.mp H
  obtain ⟨t95003, A60, H⟩ := H; have A6 := Aside0.mk A60; clear A60
  by_cases c7 : t95003 = true
  ·subst c7
   rw [if_pos rfl] at H
   replace H := Option.bind_eq_some_iff.mp H
   obtain ⟨t95004, A80, H⟩ := H; have A8 := Aside0.mk A80; clear A80
   by_cases c9 : t95004 = true
   ·subst c9
    rw [if_pos rfl] at H
    by_cases c10 : (l1_1.length : Int) = (l0_0.length : Int)
    ·rw [if_pos c10] at H
     have c10b0 : ((l1_1.length : Int) == (l0_0.length : Int)) = true := beq_iff_eq.mpr c10
     have c10b1 : ((l1_1.length : Int) != (l0_0.length : Int)) = false := bne_eq_false_iff_eq.mpr c10
     have c10b2 : (l1_1.length == l0_0.length) = true := by first | simpa using c10 | (simp at c10 ⊢; omega)
     clear c10
     by_cases c11 : 0 < (l1_1.length : Int)
     ·rw [if_pos c11] at H
      have c11b0 : decide (0 < (l1_1.length : Int)) = true := decide_eq_true c11
      have c11b1 : decide (0 < l1_1.length) = true := decide_eq_true (by omega)
      clear c11
      by_cases c12 : (rd l1_1 0) = 0
      ·rw [if_pos c12] at H
       have c12b0 : ((rd l1_1 0) == 0) = true := beq_iff_eq.mpr c12
       have c12b1 : ((rd l1_1 0) != 0) = false := bne_eq_false_iff_eq.mpr c12
       clear c12
       replace H := Option.bind_eq_some_iff.mp H
       obtain ⟨t95006, A130, H⟩ := H; have A13 := Aside0.mk A130; clear A130
       have H' := Aside0.mk H
       clear H
       have hcz15_0 : w5.cell? ⟨gb95001, 0, none⟩ = some (.slice A0_0 l0_0.length c0_0) := (blk_cell BK95001.out 0).trans rfl
       have hcz15_1 : w5.cell? ⟨gb95001, 1, none⟩ = some (.slice A0_1 l0_1.length c0_1) := (blk_cell BK95001.out 1).trans rfl
       have hcz15_2 : w5.cell? ⟨gb95001, 2, none⟩ = some (.int .i64 a0_2) := (blk_cell BK95001.out 2).trans rfl
       have hfz15_0 := blk_frozen BK95001.out 0
       have hfz15_1 := blk_frozen BK95001.out 1
       have hfz15_2 := blk_frozen BK95001.out 2
       go_wp2_with (first | (go_at_call 66; (with_reducible refine (spec_ShowOk.calls k _ _ l0_0 _ _ l0_1 a0_2 true _ ?side1 ?side2 ?side3 ?side4 A6.out).mono ?_); (case side1 => repeat (first | exact (Kd.C_below HR0_0.out HB.out) | (with_reducible refine Kd.C_alloc ?_ _) | (with_reducible refine Kd.C_drewN ?_ _) | (with_reducible refine Kd.C_drew ?_))); (case side2 => exact HC0_0.out); (case side3 => repeat (first | exact (Kd.C_below HR0_1.out HB.out) | (with_reducible refine Kd.C_alloc ?_ _) | (with_reducible refine Kd.C_drewN ?_ _) | (with_reducible refine Kd.C_drew ?_))); (case side4 => exact HC0_1.out); rintro e w16 ⟨rfl, hb⟩; have n0_ := Aside0.mk (blk_below (g := gb95001) (o := .cells #[.slice A0_0 l0_0.length c0_0, .slice A0_1 l0_1.length c0_1, .int .i64 a0_2] 35 (0, 0)) (by (with_reducible repeat (first | refine blk_drewN ?_ _ | refine blk_drew ?_ | refine blk_alloc ?_ _)); exact BK95001.out) hb); have n1_ := Aside0.mk (blk_below (g := gb95002) (o := .cells #[.int .i64 a1_0, .slice A1_1 l1_1.length c1_1, .slice A1_2 l1_2.length c1_2] 66 (0, 0)) (by (with_reducible repeat (first | refine blk_drewN ?_ _ | refine blk_drew ?_ | refine blk_alloc ?_ _)); exact BK95002.out) hb); have n2_ := Aside0.mk (below_step (by repeat (first | (with_reducible first | exact HB.out | apply below_alloc | apply pw_below_drewN | apply below_drew1 | refine below_set ?_ GE95001.out | refine below_set ?_ GE95002.out) | exact HB.out)) hb); clear BK95001; clear BK95002; clear HB; have BK95001 := n0_; have BK95002 := n1_; have HB := n2_; clear n0_ n1_ n2_; have hcz17_0 : w16.cell? ⟨gb95002, 0, none⟩ = some (.int .i64 a1_0) := (blk_cell BK95002.out 0).trans rfl; have hcz17_1 : w16.cell? ⟨gb95002, 1, none⟩ = some (.slice A1_1 l1_1.length c1_1) := (blk_cell BK95002.out 1).trans rfl; have hcz17_2 : w16.cell? ⟨gb95002, 2, none⟩ = some (.slice A1_2 l1_2.length c1_2) := (blk_cell BK95002.out 2).trans rfl; have hfz17_0 := blk_frozen BK95002.out 0; have hfz17_1 := blk_frozen BK95002.out 1; have hfz17_2 := blk_frozen BK95002.out 2; have hcz18_0 : w16.cell? ⟨gb95001, 0, none⟩ = some (.slice A0_0 l0_0.length c0_0) := (blk_cell BK95001.out 0).trans rfl; have hcz18_1 : w16.cell? ⟨gb95001, 1, none⟩ = some (.slice A0_1 l0_1.length c0_1) := (blk_cell BK95001.out 1).trans rfl; have hcz18_2 : w16.cell? ⟨gb95001, 2, none⟩ = some (.int .i64 a0_2) := (blk_cell BK95001.out 2).trans rfl; have hfz18_0 := blk_frozen BK95001.out 0; have hfz18_1 := blk_frozen BK95001.out 1) | (go_at_call 68; (with_reducible refine (spec_l01In.calls a1_0 0 (wrap64 (a0_2 + 1)) true _ A8.out).mono ?_); rintro e w' ⟨rfl, ⟨nd, rfl⟩⟩; (try first | exact ⟨rfl, _, World.drewN_drewN _ _ _⟩ | exact ⟨rfl, _, Eq.trans (World.drewN_drewN _ _ _) (congrArg (World.drewN _) (Nat.add_assoc _ _ _))⟩); have p95005 : 0 ≤ (0 : Int) := (by omega); have q95005 : 0 < (l1_1.length : Int) := of_decide_eq_true (by first | (with_reducible assumption) | assumption); obtain ⟨ad95005, e95005, hx95005_0⟩ := Kd.at_int HR1_1.out 0 p95005 q95005; cases e95005; have qi95005 : (0 < l1_1.length) = True := eq_true (by omega); (try rw [show ((0 : Int)).toNat = 0 from rfl] at hx95005_0); (try rw [Addr.add_zero'] at hx95005_0); replace hx95005_0 := (HB.out.cell (World.block_lt_of_cell? w _ hx95005_0)).trans hx95005_0; replace p95005 := eq_true p95005; replace q95005 := eq_true q95005) | (go_at_call 140; (with_reducible refine (spec_ValuesOk.calls k _ _ l1_2 t95006 _ ?side1 ?side2 A13.out).mono ?_); (case side1 => repeat (first | exact (Kd.C_below HR1_2.out (by repeat (first | (with_reducible first | exact HB.out | apply below_alloc | apply pw_below_drewN | apply below_drew1 | refine below_set ?_ GE95001.out | refine below_set ?_ GE95002.out) | exact HB.out))) | (with_reducible refine Kd.C_alloc ?_ _) | (with_reducible refine Kd.C_drewN ?_ _) | (with_reducible refine Kd.C_drew ?_))); (case side2 => exact HC1_2.out); rintro e w' ⟨rfl, ⟨nd, rfl⟩⟩; (try first | exact ⟨rfl, _, World.drewN_drewN _ _ _⟩ | exact ⟨rfl, _, Eq.trans (World.drewN_drewN _ _ _) (congrArg (World.drewN _) (Nat.add_assoc _ _ _))⟩)))
       go_meet
       case rel => exact ⟨_, (!t95006), (by first | rfl | (simp; done) | (simp [*]; done)), H', ⟨by first | omega | exact Nat.le_refl _⟩, ⟨by (with_reducible repeat (first | refine blk_drewN ?_ _ | refine blk_drew ?_ | refine blk_alloc ?_ _)); exact BK95001.out⟩, ⟨by (with_reducible repeat (first | refine blk_drewN ?_ _ | refine blk_drew ?_ | refine blk_alloc ?_ _)); exact BK95002.out⟩, ⟨by repeat (first | (with_reducible first | exact HB.out | apply below_alloc | apply pw_below_drewN | apply below_drew1 | refine below_set ?_ GE95001.out | refine below_set ?_ GE95002.out) | exact HB.out)⟩⟩
      ·rw [if_neg c12] at H
       have c12b0 : ((rd l1_1 0) == 0) = false := beq_eq_false_iff_ne.mpr c12
       have c12b1 : ((rd l1_1 0) != 0) = true := bne_iff_ne.mpr c12
       have H' := Aside0.mk H
       clear H
       have hcz20_0 : w5.cell? ⟨gb95001, 0, none⟩ = some (.slice A0_0 l0_0.length c0_0) := (blk_cell BK95001.out 0).trans rfl
       have hcz20_1 : w5.cell? ⟨gb95001, 1, none⟩ = some (.slice A0_1 l0_1.length c0_1) := (blk_cell BK95001.out 1).trans rfl
       have hcz20_2 : w5.cell? ⟨gb95001, 2, none⟩ = some (.int .i64 a0_2) := (blk_cell BK95001.out 2).trans rfl
       have hfz20_0 := blk_frozen BK95001.out 0
       have hfz20_1 := blk_frozen BK95001.out 1
       have hfz20_2 := blk_frozen BK95001.out 2
       go_wp2_with (first | (go_at_call 66; (with_reducible refine (spec_ShowOk.calls k _ _ l0_0 _ _ l0_1 a0_2 true _ ?side1 ?side2 ?side3 ?side4 A6.out).mono ?_); (case side1 => repeat (first | exact (Kd.C_below HR0_0.out HB.out) | (with_reducible refine Kd.C_alloc ?_ _) | (with_reducible refine Kd.C_drewN ?_ _) | (with_reducible refine Kd.C_drew ?_))); (case side2 => exact HC0_0.out); (case side3 => repeat (first | exact (Kd.C_below HR0_1.out HB.out) | (with_reducible refine Kd.C_alloc ?_ _) | (with_reducible refine Kd.C_drewN ?_ _) | (with_reducible refine Kd.C_drew ?_))); (case side4 => exact HC0_1.out); rintro e w21 ⟨rfl, hb⟩; have n0_ := Aside0.mk (blk_below (g := gb95001) (o := .cells #[.slice A0_0 l0_0.length c0_0, .slice A0_1 l0_1.length c0_1, .int .i64 a0_2] 35 (0, 0)) (by (with_reducible repeat (first | refine blk_drewN ?_ _ | refine blk_drew ?_ | refine blk_alloc ?_ _)); exact BK95001.out) hb); have n1_ := Aside0.mk (blk_below (g := gb95002) (o := .cells #[.int .i64 a1_0, .slice A1_1 l1_1.length c1_1, .slice A1_2 l1_2.length c1_2] 66 (0, 0)) (by (with_reducible repeat (first | refine blk_drewN ?_ _ | refine blk_drew ?_ | refine blk_alloc ?_ _)); exact BK95002.out) hb); have n2_ := Aside0.mk (below_step (by repeat (first | (with_reducible first | exact HB.out | apply below_alloc | apply pw_below_drewN | apply below_drew1 | refine below_set ?_ GE95001.out | refine below_set ?_ GE95002.out) | exact HB.out)) hb); clear BK95001; clear BK95002; clear HB; have BK95001 := n0_; have BK95002 := n1_; have HB := n2_; clear n0_ n1_ n2_; have hcz22_0 : w21.cell? ⟨gb95002, 0, none⟩ = some (.int .i64 a1_0) := (blk_cell BK95002.out 0).trans rfl; have hcz22_1 : w21.cell? ⟨gb95002, 1, none⟩ = some (.slice A1_1 l1_1.length c1_1) := (blk_cell BK95002.out 1).trans rfl; have hcz22_2 : w21.cell? ⟨gb95002, 2, none⟩ = some (.slice A1_2 l1_2.length c1_2) := (blk_cell BK95002.out 2).trans rfl; have hfz22_0 := blk_frozen BK95002.out 0; have hfz22_1 := blk_frozen BK95002.out 1; have hfz22_2 := blk_frozen BK95002.out 2; have hcz23_0 : w21.cell? ⟨gb95001, 0, none⟩ = some (.slice A0_0 l0_0.length c0_0) := (blk_cell BK95001.out 0).trans rfl; have hcz23_1 : w21.cell? ⟨gb95001, 1, none⟩ = some (.slice A0_1 l0_1.length c0_1) := (blk_cell BK95001.out 1).trans rfl; have hcz23_2 : w21.cell? ⟨gb95001, 2, none⟩ = some (.int .i64 a0_2) := (blk_cell BK95001.out 2).trans rfl; have hfz23_0 := blk_frozen BK95001.out 0; have hfz23_1 := blk_frozen BK95001.out 1) | (go_at_call 68; (with_reducible refine (spec_l01In.calls a1_0 0 (wrap64 (a0_2 + 1)) true _ A8.out).mono ?_); rintro e w' ⟨rfl, ⟨nd, rfl⟩⟩; (try first | exact ⟨rfl, _, World.drewN_drewN _ _ _⟩ | exact ⟨rfl, _, Eq.trans (World.drewN_drewN _ _ _) (congrArg (World.drewN _) (Nat.add_assoc _ _ _))⟩); have p95005 : 0 ≤ (0 : Int) := (by omega); have q95005 : 0 < (l1_1.length : Int) := of_decide_eq_true (by first | (with_reducible assumption) | assumption); obtain ⟨ad95005, e95005, hx95005_0⟩ := Kd.at_int HR1_1.out 0 p95005 q95005; cases e95005; have qi95005 : (0 < l1_1.length) = True := eq_true (by omega); (try rw [show ((0 : Int)).toNat = 0 from rfl] at hx95005_0); (try rw [Addr.add_zero'] at hx95005_0); replace hx95005_0 := (HB.out.cell (World.block_lt_of_cell? w _ hx95005_0)).trans hx95005_0; replace p95005 := eq_true p95005; replace q95005 := eq_true q95005))
       go_meet
       case rel => exact ⟨_, (true), (by first | rfl | (simp; done) | (simp [*]; done)), H', ⟨by first | omega | exact Nat.le_refl _⟩, ⟨by (with_reducible repeat (first | refine blk_drewN ?_ _ | refine blk_drew ?_ | refine blk_alloc ?_ _)); exact BK95001.out⟩, ⟨by (with_reducible repeat (first | refine blk_drewN ?_ _ | refine blk_drew ?_ | refine blk_alloc ?_ _)); exact BK95002.out⟩, ⟨by repeat (first | (with_reducible first | exact HB.out | apply below_alloc | apply pw_below_drewN | apply below_drew1 | refine below_set ?_ GE95001.out | refine below_set ?_ GE95002.out) | exact HB.out)⟩⟩
     ·rw [if_neg c11] at H
      exact absurd H (by simp)
    ·rw [if_neg c10] at H
     have c10b0 : ((l1_1.length : Int) == (l0_0.length : Int)) = false := beq_eq_false_iff_ne.mpr c10
     have c10b1 : ((l1_1.length : Int) != (l0_0.length : Int)) = true := bne_iff_ne.mpr c10
     have c10b2 : (l1_1.length == l0_0.length) = false := by first | simpa using c10 | (simp at c10 ⊢; omega)
     have H' := Aside0.mk H
     clear H
     have hcz25_0 : w5.cell? ⟨gb95001, 0, none⟩ = some (.slice A0_0 l0_0.length c0_0) := (blk_cell BK95001.out 0).trans rfl
     have hcz25_1 : w5.cell? ⟨gb95001, 1, none⟩ = some (.slice A0_1 l0_1.length c0_1) := (blk_cell BK95001.out 1).trans rfl
     have hcz25_2 : w5.cell? ⟨gb95001, 2, none⟩ = some (.int .i64 a0_2) := (blk_cell BK95001.out 2).trans rfl
     have hfz25_0 := blk_frozen BK95001.out 0
     have hfz25_1 := blk_frozen BK95001.out 1
     have hfz25_2 := blk_frozen BK95001.out 2
     go_wp2_with (first | (go_at_call 66; (with_reducible refine (spec_ShowOk.calls k _ _ l0_0 _ _ l0_1 a0_2 true _ ?side1 ?side2 ?side3 ?side4 A6.out).mono ?_); (case side1 => repeat (first | exact (Kd.C_below HR0_0.out HB.out) | (with_reducible refine Kd.C_alloc ?_ _) | (with_reducible refine Kd.C_drewN ?_ _) | (with_reducible refine Kd.C_drew ?_))); (case side2 => exact HC0_0.out); (case side3 => repeat (first | exact (Kd.C_below HR0_1.out HB.out) | (with_reducible refine Kd.C_alloc ?_ _) | (with_reducible refine Kd.C_drewN ?_ _) | (with_reducible refine Kd.C_drew ?_))); (case side4 => exact HC0_1.out); rintro e w26 ⟨rfl, hb⟩; have n0_ := Aside0.mk (blk_below (g := gb95001) (o := .cells #[.slice A0_0 l0_0.length c0_0, .slice A0_1 l0_1.length c0_1, .int .i64 a0_2] 35 (0, 0)) (by (with_reducible repeat (first | refine blk_drewN ?_ _ | refine blk_drew ?_ | refine blk_alloc ?_ _)); exact BK95001.out) hb); have n1_ := Aside0.mk (blk_below (g := gb95002) (o := .cells #[.int .i64 a1_0, .slice A1_1 l1_1.length c1_1, .slice A1_2 l1_2.length c1_2] 66 (0, 0)) (by (with_reducible repeat (first | refine blk_drewN ?_ _ | refine blk_drew ?_ | refine blk_alloc ?_ _)); exact BK95002.out) hb); have n2_ := Aside0.mk (below_step (by repeat (first | (with_reducible first | exact HB.out | apply below_alloc | apply pw_below_drewN | apply below_drew1 | refine below_set ?_ GE95001.out | refine below_set ?_ GE95002.out) | exact HB.out)) hb); clear BK95001; clear BK95002; clear HB; have BK95001 := n0_; have BK95002 := n1_; have HB := n2_; clear n0_ n1_ n2_; have hcz27_0 : w26.cell? ⟨gb95002, 0, none⟩ = some (.int .i64 a1_0) := (blk_cell BK95002.out 0).trans rfl; have hcz27_1 : w26.cell? ⟨gb95002, 1, none⟩ = some (.slice A1_1 l1_1.length c1_1) := (blk_cell BK95002.out 1).trans rfl; have hcz27_2 : w26.cell? ⟨gb95002, 2, none⟩ = some (.slice A1_2 l1_2.length c1_2) := (blk_cell BK95002.out 2).trans rfl; have hfz27_0 := blk_frozen BK95002.out 0; have hfz27_1 := blk_frozen BK95002.out 1; have hfz27_2 := blk_frozen BK95002.out 2; have hcz28_0 : w26.cell? ⟨gb95001, 0, none⟩ = some (.slice A0_0 l0_0.length c0_0) := (blk_cell BK95001.out 0).trans rfl; have hcz28_1 : w26.cell? ⟨gb95001, 1, none⟩ = some (.slice A0_1 l0_1.length c0_1) := (blk_cell BK95001.out 1).trans rfl; have hcz28_2 : w26.cell? ⟨gb95001, 2, none⟩ = some (.int .i64 a0_2) := (blk_cell BK95001.out 2).trans rfl; have hfz28_0 := blk_frozen BK95001.out 0; have hfz28_1 := blk_frozen BK95001.out 1) | (go_at_call 68; (with_reducible refine (spec_l01In.calls a1_0 0 (wrap64 (a0_2 + 1)) true _ A8.out).mono ?_); rintro e w' ⟨rfl, ⟨nd, rfl⟩⟩; (try first | exact ⟨rfl, _, World.drewN_drewN _ _ _⟩ | exact ⟨rfl, _, Eq.trans (World.drewN_drewN _ _ _) (congrArg (World.drewN _) (Nat.add_assoc _ _ _))⟩)))
     go_meet
     case rel => exact ⟨_, (true), (by first | rfl | (simp; done) | (simp [*]; done)), H', ⟨by first | omega | exact Nat.le_refl _⟩, ⟨by (with_reducible repeat (first | refine blk_drewN ?_ _ | refine blk_drew ?_ | refine blk_alloc ?_ _)); exact BK95001.out⟩, ⟨by (with_reducible repeat (first | refine blk_drewN ?_ _ | refine blk_drew ?_ | refine blk_alloc ?_ _)); exact BK95002.out⟩, ⟨by repeat (first | (with_reducible first | exact HB.out | apply below_alloc | apply pw_below_drewN | apply below_drew1 | refine below_set ?_ GE95001.out | refine below_set ?_ GE95002.out) | exact HB.out)⟩⟩
   ·replace c9 := Bool.eq_false_iff.mpr c9
    subst c9
    have H1 : (spec_StateOk.j0 k true l0_0 l0_1 a0_2 a1_0 l1_1 l1_2) = some r := by rw [if_neg (show ¬ (false = true) by decide)] at H; exact H
    clear H
    have H := H1
    clear H1
    have H' := Aside0.mk H
    clear H
    have hcz30_0 : w5.cell? ⟨gb95001, 0, none⟩ = some (.slice A0_0 l0_0.length c0_0) := (blk_cell BK95001.out 0).trans rfl
    have hcz30_1 : w5.cell? ⟨gb95001, 1, none⟩ = some (.slice A0_1 l0_1.length c0_1) := (blk_cell BK95001.out 1).trans rfl
    have hcz30_2 : w5.cell? ⟨gb95001, 2, none⟩ = some (.int .i64 a0_2) := (blk_cell BK95001.out 2).trans rfl
    have hfz30_0 := blk_frozen BK95001.out 0
    have hfz30_1 := blk_frozen BK95001.out 1
    have hfz30_2 := blk_frozen BK95001.out 2
    go_wp2_with (first | (go_at_call 66; (with_reducible refine (spec_ShowOk.calls k _ _ l0_0 _ _ l0_1 a0_2 true _ ?side1 ?side2 ?side3 ?side4 A6.out).mono ?_); (case side1 => repeat (first | exact (Kd.C_below HR0_0.out HB.out) | (with_reducible refine Kd.C_alloc ?_ _) | (with_reducible refine Kd.C_drewN ?_ _) | (with_reducible refine Kd.C_drew ?_))); (case side2 => exact HC0_0.out); (case side3 => repeat (first | exact (Kd.C_below HR0_1.out HB.out) | (with_reducible refine Kd.C_alloc ?_ _) | (with_reducible refine Kd.C_drewN ?_ _) | (with_reducible refine Kd.C_drew ?_))); (case side4 => exact HC0_1.out); rintro e w31 ⟨rfl, hb⟩; have n0_ := Aside0.mk (blk_below (g := gb95001) (o := .cells #[.slice A0_0 l0_0.length c0_0, .slice A0_1 l0_1.length c0_1, .int .i64 a0_2] 35 (0, 0)) (by (with_reducible repeat (first | refine blk_drewN ?_ _ | refine blk_drew ?_ | refine blk_alloc ?_ _)); exact BK95001.out) hb); have n1_ := Aside0.mk (blk_below (g := gb95002) (o := .cells #[.int .i64 a1_0, .slice A1_1 l1_1.length c1_1, .slice A1_2 l1_2.length c1_2] 66 (0, 0)) (by (with_reducible repeat (first | refine blk_drewN ?_ _ | refine blk_drew ?_ | refine blk_alloc ?_ _)); exact BK95002.out) hb); have n2_ := Aside0.mk (below_step (by repeat (first | (with_reducible first | exact HB.out | apply below_alloc | apply pw_below_drewN | apply below_drew1 | refine below_set ?_ GE95001.out | refine below_set ?_ GE95002.out) | exact HB.out)) hb); clear BK95001; clear BK95002; clear HB; have BK95001 := n0_; have BK95002 := n1_; have HB := n2_; clear n0_ n1_ n2_; have hcz32_0 : w31.cell? ⟨gb95002, 0, none⟩ = some (.int .i64 a1_0) := (blk_cell BK95002.out 0).trans rfl; have hcz32_1 : w31.cell? ⟨gb95002, 1, none⟩ = some (.slice A1_1 l1_1.length c1_1) := (blk_cell BK95002.out 1).trans rfl; have hcz32_2 : w31.cell? ⟨gb95002, 2, none⟩ = some (.slice A1_2 l1_2.length c1_2) := (blk_cell BK95002.out 2).trans rfl; have hfz32_0 := blk_frozen BK95002.out 0; have hfz32_1 := blk_frozen BK95002.out 1; have hfz32_2 := blk_frozen BK95002.out 2; have hcz33_0 : w31.cell? ⟨gb95001, 0, none⟩ = some (.slice A0_0 l0_0.length c0_0) := (blk_cell BK95001.out 0).trans rfl; have hcz33_1 : w31.cell? ⟨gb95001, 1, none⟩ = some (.slice A0_1 l0_1.length c0_1) := (blk_cell BK95001.out 1).trans rfl; have hcz33_2 : w31.cell? ⟨gb95001, 2, none⟩ = some (.int .i64 a0_2) := (blk_cell BK95001.out 2).trans rfl; have hfz33_0 := blk_frozen BK95001.out 0; have hfz33_1 := blk_frozen BK95001.out 1) | (go_at_call 68; (with_reducible refine (spec_l01In.calls a1_0 0 (wrap64 (a0_2 + 1)) false _ A8.out).mono ?_); rintro e w' ⟨rfl, ⟨nd, rfl⟩⟩; (try first | exact ⟨rfl, _, World.drewN_drewN _ _ _⟩ | exact ⟨rfl, _, Eq.trans (World.drewN_drewN _ _ _) (congrArg (World.drewN _) (Nat.add_assoc _ _ _))⟩)))
    go_meet
    case rel => exact ⟨_, (true), (by first | rfl | (simp; done) | (simp [*]; done)), H', ⟨by first | omega | exact Nat.le_refl _⟩, ⟨by (with_reducible repeat (first | refine blk_drewN ?_ _ | refine blk_drew ?_ | refine blk_alloc ?_ _)); exact BK95001.out⟩, ⟨by (with_reducible repeat (first | refine blk_drewN ?_ _ | refine blk_drew ?_ | refine blk_alloc ?_ _)); exact BK95002.out⟩, ⟨by repeat (first | (with_reducible first | exact HB.out | apply below_alloc | apply pw_below_drewN | apply below_drew1 | refine below_set ?_ GE95001.out | refine below_set ?_ GE95002.out) | exact HB.out)⟩⟩
  ·replace c7 := Bool.eq_false_iff.mpr c7
   subst c7
   have H1 : (spec_StateOk.j0 k true l0_0 l0_1 a0_2 a1_0 l1_1 l1_2) = some r := by rw [if_neg (show ¬ (false = true) by decide)] at H; exact H
   clear H
   have H := H1
   clear H1
   have H' := Aside0.mk H
   clear H
   have hcz35_0 : w5.cell? ⟨gb95001, 0, none⟩ = some (.slice A0_0 l0_0.length c0_0) := (blk_cell BK95001.out 0).trans rfl
   have hcz35_1 : w5.cell? ⟨gb95001, 1, none⟩ = some (.slice A0_1 l0_1.length c0_1) := (blk_cell BK95001.out 1).trans rfl
   have hcz35_2 : w5.cell? ⟨gb95001, 2, none⟩ = some (.int .i64 a0_2) := (blk_cell BK95001.out 2).trans rfl
   have hfz35_0 := blk_frozen BK95001.out 0
   have hfz35_1 := blk_frozen BK95001.out 1
   have hfz35_2 := blk_frozen BK95001.out 2
   go_wp2_with (first | (go_at_call 66; (with_reducible refine (spec_ShowOk.calls k _ _ l0_0 _ _ l0_1 a0_2 false _ ?side1 ?side2 ?side3 ?side4 A6.out).mono ?_); (case side1 => repeat (first | exact (Kd.C_below HR0_0.out HB.out) | (with_reducible refine Kd.C_alloc ?_ _) | (with_reducible refine Kd.C_drewN ?_ _) | (with_reducible refine Kd.C_drew ?_))); (case side2 => exact HC0_0.out); (case side3 => repeat (first | exact (Kd.C_below HR0_1.out HB.out) | (with_reducible refine Kd.C_alloc ?_ _) | (with_reducible refine Kd.C_drewN ?_ _) | (with_reducible refine Kd.C_drew ?_))); (case side4 => exact HC0_1.out); rintro e w36 ⟨rfl, hb⟩; have n0_ := Aside0.mk (blk_below (g := gb95001) (o := .cells #[.slice A0_0 l0_0.length c0_0, .slice A0_1 l0_1.length c0_1, .int .i64 a0_2] 35 (0, 0)) (by (with_reducible repeat (first | refine blk_drewN ?_ _ | refine blk_drew ?_ | refine blk_alloc ?_ _)); exact BK95001.out) hb); have n1_ := Aside0.mk (blk_below (g := gb95002) (o := .cells #[.int .i64 a1_0, .slice A1_1 l1_1.length c1_1, .slice A1_2 l1_2.length c1_2] 66 (0, 0)) (by (with_reducible repeat (first | refine blk_drewN ?_ _ | refine blk_drew ?_ | refine blk_alloc ?_ _)); exact BK95002.out) hb); have n2_ := Aside0.mk (below_step (by repeat (first | (with_reducible first | exact HB.out | apply below_alloc | apply pw_below_drewN | apply below_drew1 | refine below_set ?_ GE95001.out | refine below_set ?_ GE95002.out) | exact HB.out)) hb); clear BK95001; clear BK95002; clear HB; have BK95001 := n0_; have BK95002 := n1_; have HB := n2_; clear n0_ n1_ n2_; (try clear hi)))
   go_meet
   case rel => exact ⟨_, (true), (by first | rfl | (simp; done) | (simp [*]; done)), H', ⟨by first | omega | exact Nat.le_refl _⟩, ⟨by (with_reducible repeat (first | refine blk_drewN ?_ _ | refine blk_drew ?_ | refine blk_alloc ?_ _)); exact BK95001.out⟩, ⟨by (with_reducible repeat (first | refine blk_drewN ?_ _ | refine blk_drew ?_ | refine blk_alloc ?_ _)); exact BK95002.out⟩, ⟨by repeat (first | (with_reducible first | exact HB.out | apply below_alloc | apply pw_below_drewN | apply below_drew1 | refine below_set ?_ GE95001.out | refine below_set ?_ GE95002.out) | exact HB.out)⟩⟩
 case rest =>
  clear HC3
  try clear c1
  try clear c2
  try clear p2
  try clear c3
  try clear p6
  try clear c7
  try clear c9
  try clear p9
  try clear q9
  try clear hx9
  try clear qi9
  try clear c10
  try clear c10b0
  try clear c10b1
  try clear c10b2
  try clear c11
  try clear c11b0
  try clear c11b1
  try clear c12
  try clear c12b0
  try clear c12b1
  try clear c14
  try clear c19
  try clear c24
  try clear c29
  try clear c34
  try clear hcz15_0
  try clear hcz15_1
  try clear hcz15_2
  try clear hcz17_0
  try clear hcz17_1
  try clear hcz17_2
  try clear hcz18_0
  try clear hcz18_1
  try clear hcz18_2
  try clear hcz20_0
  try clear hcz20_1
  try clear hcz20_2
  try clear hcz22_0
  try clear hcz22_1
  try clear hcz22_2
  try clear hcz23_0
  try clear hcz23_1
  try clear hcz23_2
  try clear hcz25_0
  try clear hcz25_1
  try clear hcz25_2
  try clear hcz27_0
  try clear hcz27_1
  try clear hcz27_2
  try clear hcz28_0
  try clear hcz28_1
  try clear hcz28_2
  try clear hcz30_0
  try clear hcz30_1
  try clear hcz30_2
  try clear hcz32_0
  try clear hcz32_1
  try clear hcz32_2
  try clear hcz33_0
  try clear hcz33_1
  try clear hcz33_2
  try clear hcz35_0
  try clear hcz35_1
  try clear hcz35_2
  try clear hfz15_0
  try clear hfz15_1
  try clear hfz15_2
  try clear hfz17_0
  try clear hfz17_1
  try clear hfz17_2
  try clear hfz18_0
  try clear hfz18_1
  try clear hfz18_2
  try clear hfz20_0
  try clear hfz20_1
  try clear hfz20_2
  try clear hfz22_0
  try clear hfz22_1
  try clear hfz22_2
  try clear hfz23_0
  try clear hfz23_1
  try clear hfz23_2
  try clear hfz25_0
  try clear hfz25_1
  try clear hfz25_2
  try clear hfz27_0
  try clear hfz27_1
  try clear hfz27_2
  try clear hfz28_0
  try clear hfz28_1
  try clear hfz28_2
  try clear hfz30_0
  try clear hfz30_1
  try clear hfz30_2
  try clear hfz32_0
  try clear hfz32_1
  try clear hfz32_2
  try clear hfz33_0
  try clear hfz33_1
  try clear hfz33_2
  try clear hfz35_0
  try clear hfz35_1
  try clear hfz35_2
  try clear hx95005_0
  try clear p95005
  try clear q95005
  obtain ⟨kq, x42_2, rfl, HA, HJ2, BK95001, BK95002, HB⟩ := hcut
  cases kq with
  | zero => exact absurd HA.out (by simp [spec_StateOk.j0])
  | succ kj2 =>
   have H := HA.out
   clear HA
   simp only [spec_StateOk.j0] at H
   by_cases c37 : x42_2 = true
   ·subst c37
    rw [if_pos rfl] at H
    obtain rfl := Option.some.inj H
    go_wp2
    repeat (go_quiet (fail); try go_wp2)
    go_ret
    exact ⟨by first | rfl | (simp [errW_none, errW_some] <;> rfl) | (simp [*, errW_none, errW_some] <;> rfl), by repeat (first | (with_reducible first | exact HB.out | apply below_alloc | apply pw_below_drewN | apply below_drew1 | refine below_set ?_ GE95001.out | refine below_set ?_ GE95002.out) | exact HB.out)⟩
   ·replace c37 := Bool.eq_false_iff.mpr c37
    subst c37
    have H1 : (spec_StateOk.l0 kj2 l1_1 (l1_1.length : Int) 0 l0_0 l0_1 a0_2 a1_0 l1_1 l1_2) = some r := by rw [if_neg (show ¬ (false = true) by decide)] at H; exact H
    clear H
    have H := H1
    clear H1
    have H' := Aside0.mk H
    clear H
    have hcz39_0 : wc.cell? ⟨gb95002, 0, none⟩ = some (.int .i64 a1_0) := (blk_cell BK95002.out 0).trans rfl
    have hcz39_1 : wc.cell? ⟨gb95002, 1, none⟩ = some (.slice A1_1 l1_1.length c1_1) := (blk_cell BK95002.out 1).trans rfl
    have hcz39_2 : wc.cell? ⟨gb95002, 2, none⟩ = some (.slice A1_2 l1_2.length c1_2) := (blk_cell BK95002.out 2).trans rfl
    have hfz39_0 := blk_frozen BK95002.out 0
    have hfz39_1 := blk_frozen BK95002.out 1
    have hfz39_2 := blk_frozen BK95002.out 2
    go_wp2
    repeat (go_quiet (fail); try go_wp2)
    go_loopg [46] kj2 (fun kq v46 w' => ∃ (x46_2 : Int), v46 = .int .i64 x46_2 ∧ Aside0 (spec_StateOk.l0 kq l1_1 (l1_1.length : Int) x46_2 l0_0 l0_1 a0_2 a1_0 l1_1 l1_2 = some r) ∧ Aside0 (kq ≤ kj2) ∧ Aside0 (w'.heap[gb95001]? = some (.cells #[(.slice A0_0 l0_0.length c0_0), (.slice A0_1 l0_1.length c0_1), .int .i64 a0_2] 35 (0, 0))) ∧ Aside0 (w'.heap[gb95002]? = some (.cells #[.int .i64 a1_0, (.slice A1_1 l1_1.length c1_1), (.slice A1_2 l1_2.length c1_2)] 66 (0, 0))) ∧ Aside0 (Below w.heap.size w w'))
    case atStart => exact ⟨(0), (by first | rfl | (simp; done) | (simp [*]; done)), H', ⟨Nat.le_refl _⟩, ⟨by (with_reducible repeat (first | refine blk_drewN ?_ _ | refine blk_drew ?_ | refine blk_alloc ?_ _)); exact BK95001.out⟩, ⟨by (with_reducible repeat (first | refine blk_drewN ?_ _ | refine blk_drew ?_ | refine blk_alloc ?_ _)); exact BK95002.out⟩, ⟨by repeat (first | (with_reducible first | exact HB.out | apply below_alloc | apply pw_below_drewN | apply below_drew1 | refine below_set ?_ GE95001.out | refine below_set ?_ GE95002.out) | exact HB.out)⟩⟩
    case round =>
     clear H'
     try clear c1
     try clear c2
     try clear p2
     try clear c3
     try clear p6
     try clear c7
     try clear c9
     try clear p9
     try clear q9
     try clear hx9
     try clear qi9
     try clear c10
     try clear c10b0
     try clear c10b1
     try clear c10b2
     try clear c11
     try clear c11b0
     try clear c11b1
     try clear c12
     try clear c12b0
     try clear c12b1
     try clear c14
     try clear c19
     try clear c24
     try clear c29
     try clear c34
     try clear c37
     try clear c38
     try clear hcz15_0
     try clear hcz15_1
     try clear hcz15_2
     try clear hcz17_0
     try clear hcz17_1
     try clear hcz17_2
     try clear hcz18_0
     try clear hcz18_1
     try clear hcz18_2
     try clear hcz20_0
     try clear hcz20_1
     try clear hcz20_2
     try clear hcz22_0
     try clear hcz22_1
     try clear hcz22_2
     try clear hcz23_0
     try clear hcz23_1
     try clear hcz23_2
     try clear hcz25_0
     try clear hcz25_1
     try clear hcz25_2
     try clear hcz27_0
     try clear hcz27_1
     try clear hcz27_2
     try clear hcz28_0
     try clear hcz28_1
     try clear hcz28_2
     try clear hcz30_0
     try clear hcz30_1
     try clear hcz30_2
     try clear hcz32_0
     try clear hcz32_1
     try clear hcz32_2
     try clear hcz33_0
     try clear hcz33_1
     try clear hcz33_2
     try clear hcz35_0
     try clear hcz35_1
     try clear hcz35_2
     try clear hcz39_0
     try clear hcz39_1
     try clear hcz39_2
     try clear hfz15_0
     try clear hfz15_1
     try clear hfz15_2
     try clear hfz17_0
     try clear hfz17_1
     try clear hfz17_2
     try clear hfz18_0
     try clear hfz18_1
     try clear hfz18_2
     try clear hfz20_0
     try clear hfz20_1
     try clear hfz20_2
     try clear hfz22_0
     try clear hfz22_1
     try clear hfz22_2
     try clear hfz23_0
     try clear hfz23_1
     try clear hfz23_2
     try clear hfz25_0
     try clear hfz25_1
     try clear hfz25_2
     try clear hfz27_0
     try clear hfz27_1
     try clear hfz27_2
     try clear hfz28_0
     try clear hfz28_1
     try clear hfz28_2
     try clear hfz30_0
     try clear hfz30_1
     try clear hfz30_2
     try clear hfz32_0
     try clear hfz32_1
     try clear hfz32_2
     try clear hfz33_0
     try clear hfz33_1
     try clear hfz33_2
     try clear hfz35_0
     try clear hfz35_1
     try clear hfz35_2
     try clear hfz39_0
     try clear hfz39_1
     try clear hfz39_2
     try clear hx95005_0
     try clear p2
     try clear p6
     try clear p9
     try clear p95005
     try clear q9
     try clear q95005
     obtain ⟨x46_2, rfl, HA, HK2, BK95001, BK95002, HB⟩ := hrel
     cases gk with
     | zero => exact absurd HA.out (by simp [spec_StateOk.l0])
     | succ k2 =>
      have H := HA.out
      clear HA
      simp only [spec_StateOk.l0] at H
      by_cases c40 : x46_2 < (l1_1.length : Int)
      ·rw [if_pos c40] at H
       have c40b0 : decide (x46_2 < (l1_1.length : Int)) = true := decide_eq_true c40
       clear c40
       by_cases c41 : 0 ≤ x46_2
       ·rw [if_pos c41] at H
        have c41b0 : decide (0 ≤ x46_2) = true := decide_eq_true c41
        clear c41
        by_cases c42 : x46_2 < (l1_1.length : Int)
        ·rw [if_pos c42] at H
         have c42b0 : decide (x46_2 < (l1_1.length : Int)) = true := decide_eq_true c42
         clear c42
         by_cases c43 : x46_2 > 0
         ·rw [if_pos c43] at H
          have c43b0 : decide (0 < x46_2) = true := decide_eq_true c43
          clear c43
          replace H := Option.bind_eq_some_iff.mp H
          obtain ⟨t95008, A440, H⟩ := H; have A44 := Aside0.mk A440; clear A440
          by_cases c45 : t95008 = true
          ·subst c45
           rw [if_pos rfl] at H
           have H' := Aside0.mk H
           clear H
           have p95007 : 0 ≤ (x46_2 : Int) := of_decide_eq_true (by first | (with_reducible assumption) | assumption)
           have q95007 : x46_2 < (l1_1.length : Int) := of_decide_eq_true (by first | (with_reducible assumption) | assumption)
           obtain ⟨ad95007, e95007, hx95007_0⟩ := Kd.at_int HR1_1.out x46_2 p95007 q95007
           cases e95007
           replace hx95007_0 := (HB.out.cell (World.block_lt_of_cell? w _ hx95007_0)).trans hx95007_0
           replace p95007 := eq_true p95007
           replace q95007 := eq_true q95007
           have hcz47_0 : wr.cell? ⟨gb95002, 0, none⟩ = some (.int .i64 a1_0) := (blk_cell BK95002.out 0).trans rfl
           have hcz47_1 : wr.cell? ⟨gb95002, 1, none⟩ = some (.slice (some ad95007) l1_1.length c1_1) := (blk_cell BK95002.out 1).trans rfl
           have hcz47_2 : wr.cell? ⟨gb95002, 2, none⟩ = some (.slice A1_2 l1_2.length c1_2) := (blk_cell BK95002.out 2).trans rfl
           have hfz47_0 := blk_frozen BK95002.out 0
           have hfz47_1 := blk_frozen BK95002.out 1
           have hfz47_2 := blk_frozen BK95002.out 2
           go_wp2_with (first | (go_at_call 68; (with_reducible refine (spec_l01In.calls (rd l1_1 x46_2) (-1) (wrap64 (a1_0 - 1)) true _ A44.out).mono ?_); rintro e w' ⟨rfl, ⟨nd, rfl⟩⟩; (try first | exact ⟨rfl, _, World.drewN_drewN _ _ _⟩ | exact ⟨rfl, _, Eq.trans (World.drewN_drewN _ _ _) (congrArg (World.drewN _) (Nat.add_assoc _ _ _))⟩)))
           go_roundg k2
           case measure => have := HJ2.out; have := HK2.out; omega
           case rel => exact ⟨(wrap64 (x46_2 + 1)), (by first | rfl | (simp; done) | (simp [*]; done)), H', ⟨by have := HJ2.out; have := HK2.out; omega⟩, ⟨by (with_reducible repeat (first | refine blk_drewN ?_ _ | refine blk_drew ?_ | refine blk_alloc ?_ _)); exact BK95001.out⟩, ⟨by (with_reducible repeat (first | refine blk_drewN ?_ _ | refine blk_drew ?_ | refine blk_alloc ?_ _)); exact BK95002.out⟩, ⟨by repeat (first | (with_reducible first | exact HB.out | apply below_alloc | apply pw_below_drewN | apply below_drew1 | refine below_set ?_ GE95001.out | refine below_set ?_ GE95002.out) | exact HB.out)⟩⟩
          ·replace c45 := Bool.eq_false_iff.mpr c45
           subst c45
           have H1 : (some false) = some r := by rw [if_neg (show ¬ (false = true) by decide)] at H; exact H
           clear H
           have H := H1
           clear H1
           obtain rfl := Option.some.inj H
           have p95007 : 0 ≤ (x46_2 : Int) := of_decide_eq_true (by first | (with_reducible assumption) | assumption)
           have q95007 : x46_2 < (l1_1.length : Int) := of_decide_eq_true (by first | (with_reducible assumption) | assumption)
           obtain ⟨ad95007, e95007, hx95007_0⟩ := Kd.at_int HR1_1.out x46_2 p95007 q95007
           cases e95007
           replace hx95007_0 := (HB.out.cell (World.block_lt_of_cell? w _ hx95007_0)).trans hx95007_0
           replace p95007 := eq_true p95007
           replace q95007 := eq_true q95007
           have hcz49_0 : wr.cell? ⟨gb95002, 0, none⟩ = some (.int .i64 a1_0) := (blk_cell BK95002.out 0).trans rfl
           have hcz49_1 : wr.cell? ⟨gb95002, 1, none⟩ = some (.slice (some ad95007) l1_1.length c1_1) := (blk_cell BK95002.out 1).trans rfl
           have hcz49_2 : wr.cell? ⟨gb95002, 2, none⟩ = some (.slice A1_2 l1_2.length c1_2) := (blk_cell BK95002.out 2).trans rfl
           have hfz49_0 := blk_frozen BK95002.out 0
           have hfz49_1 := blk_frozen BK95002.out 1
           have hfz49_2 := blk_frozen BK95002.out 2
           go_wp2_with (first | (go_at_call 68; (with_reducible refine (spec_l01In.calls (rd l1_1 x46_2) (-1) (wrap64 (a1_0 - 1)) false _ A44.out).mono ?_); rintro e w' ⟨rfl, ⟨nd, rfl⟩⟩; (try first | exact ⟨rfl, _, World.drewN_drewN _ _ _⟩ | exact ⟨rfl, _, Eq.trans (World.drewN_drewN _ _ _) (congrArg (World.drewN _) (Nat.add_assoc _ _ _))⟩)))
           go_ret
           exact ⟨by first | rfl | (simp [errW_none, errW_some] <;> rfl) | (simp [*, errW_none, errW_some] <;> rfl), by repeat (first | (with_reducible first | exact HB.out | apply below_alloc | apply pw_below_drewN | apply below_drew1 | refine below_set ?_ GE95001.out | refine below_set ?_ GE95002.out) | exact HB.out)⟩
         ·rw [if_neg c43] at H
          have c43b0 : decide (0 < x46_2) = false := decide_eq_false c43
          clear c43
          have H' := Aside0.mk H
          clear H
          have p95007 : 0 ≤ (x46_2 : Int) := of_decide_eq_true (by first | (with_reducible assumption) | assumption)
          have q95007 : x46_2 < (l1_1.length : Int) := of_decide_eq_true (by first | (with_reducible assumption) | assumption)
          obtain ⟨ad95007, e95007, hx95007_0⟩ := Kd.at_int HR1_1.out x46_2 p95007 q95007
          cases e95007
          replace hx95007_0 := (HB.out.cell (World.block_lt_of_cell? w _ hx95007_0)).trans hx95007_0
          replace p95007 := eq_true p95007
          replace q95007 := eq_true q95007
          go_wp2
          repeat (go_quiet (fail); try go_wp2)
          go_roundg k2
          case measure => have := HJ2.out; have := HK2.out; omega
          case rel => exact ⟨(wrap64 (x46_2 + 1)), (by first | rfl | (simp; done) | (simp [*]; done)), H', ⟨by have := HJ2.out; have := HK2.out; omega⟩, ⟨by (with_reducible repeat (first | refine blk_drewN ?_ _ | refine blk_drew ?_ | refine blk_alloc ?_ _)); exact BK95001.out⟩, ⟨by (with_reducible repeat (first | refine blk_drewN ?_ _ | refine blk_drew ?_ | refine blk_alloc ?_ _)); exact BK95002.out⟩, ⟨by repeat (first | (with_reducible first | exact HB.out | apply below_alloc | apply pw_below_drewN | apply below_drew1 | refine below_set ?_ GE95001.out | refine below_set ?_ GE95002.out) | exact HB.out)⟩⟩
        ·rw [if_neg c42] at H
         exact absurd H (by simp)
       ·rw [if_neg c41] at H
        exact absurd H (by simp)
      ·rw [if_neg c40] at H
       have c40b0 : decide (x46_2 < (l1_1.length : Int)) = false := decide_eq_false c40
       clear c40
       have H' := Aside0.mk H
       clear H
       go_wp2
       repeat (go_quiet (fail); try go_wp2)
       go_loopg [7] k2 (fun kq v7 w' => ∃ (x7_3 : Int), v7 = .int .i64 x7_3 ∧ Aside0 (spec_StateOk.l1 kq x7_3 l0_0 l0_1 a0_2 a1_0 l1_1 l1_2 = some r) ∧ Aside0 (kq ≤ k2) ∧ Aside0 (w'.heap[gb95001]? = some (.cells #[(.slice A0_0 l0_0.length c0_0), (.slice A0_1 l0_1.length c0_1), .int .i64 a0_2] 35 (0, 0))) ∧ Aside0 (w'.heap[gb95002]? = some (.cells #[.int .i64 a1_0, (.slice A1_1 l1_1.length c1_1), (.slice A1_2 l1_2.length c1_2)] 66 (0, 0))) ∧ Aside0 (Below w.heap.size w w'))
       case atStart => exact ⟨(1), (by first | rfl | (simp; done) | (simp [*]; done)), H', ⟨Nat.le_refl _⟩, ⟨by (with_reducible repeat (first | refine blk_drewN ?_ _ | refine blk_drew ?_ | refine blk_alloc ?_ _)); exact BK95001.out⟩, ⟨by (with_reducible repeat (first | refine blk_drewN ?_ _ | refine blk_drew ?_ | refine blk_alloc ?_ _)); exact BK95002.out⟩, ⟨by repeat (first | (with_reducible first | exact HB.out | apply below_alloc | apply pw_below_drewN | apply below_drew1 | refine below_set ?_ GE95001.out | refine below_set ?_ GE95002.out) | exact HB.out)⟩⟩
       case round =>
        clear H'
        try clear c1
        try clear c2
        try clear p2
        try clear c3
        try clear c4
        try clear p6
        try clear c7
        try clear c9
        try clear p9
        try clear q9
        try clear hx9
        try clear qi9
        try clear c10
        try clear c10b0
        try clear c10b1
        try clear c10b2
        try clear c11
        try clear c11b0
        try clear c11b1
        try clear c12
        try clear c12b0
        try clear c12b1
        try clear c14
        try clear c19
        try clear c24
        try clear c29
        try clear c34
        try clear c37
        try clear c38
        try clear c40
        try clear c40b0
        try clear c41
        try clear c41b0
        try clear c42
        try clear c42b0
        try clear c43
        try clear c43b0
        try clear c45
        try clear c46
        try clear c48
        try clear hcz15_0
        try clear hcz15_1
        try clear hcz15_2
        try clear hcz17_0
        try clear hcz17_1
        try clear hcz17_2
        try clear hcz18_0
        try clear hcz18_1
        try clear hcz18_2
        try clear hcz20_0
        try clear hcz20_1
        try clear hcz20_2
        try clear hcz22_0
        try clear hcz22_1
        try clear hcz22_2
        try clear hcz23_0
        try clear hcz23_1
        try clear hcz23_2
        try clear hcz25_0
        try clear hcz25_1
        try clear hcz25_2
        try clear hcz27_0
        try clear hcz27_1
        try clear hcz27_2
        try clear hcz28_0
        try clear hcz28_1
        try clear hcz28_2
        try clear hcz30_0
        try clear hcz30_1
        try clear hcz30_2
        try clear hcz32_0
        try clear hcz32_1
        try clear hcz32_2
        try clear hcz33_0
        try clear hcz33_1
        try clear hcz33_2
        try clear hcz35_0
        try clear hcz35_1
        try clear hcz35_2
        try clear hcz39_0
        try clear hcz39_1
        try clear hcz39_2
        try clear hcz47_0
        try clear hcz47_1
        try clear hcz47_2
        try clear hcz49_0
        try clear hcz49_1
        try clear hcz49_2
        try clear hfz15_0
        try clear hfz15_1
        try clear hfz15_2
        try clear hfz17_0
        try clear hfz17_1
        try clear hfz17_2
        try clear hfz18_0
        try clear hfz18_1
        try clear hfz18_2
        try clear hfz20_0
        try clear hfz20_1
        try clear hfz20_2
        try clear hfz22_0
        try clear hfz22_1
        try clear hfz22_2
        try clear hfz23_0
        try clear hfz23_1
        try clear hfz23_2
        try clear hfz25_0
        try clear hfz25_1
        try clear hfz25_2
        try clear hfz27_0
        try clear hfz27_1
        try clear hfz27_2
        try clear hfz28_0
        try clear hfz28_1
        try clear hfz28_2
        try clear hfz30_0
        try clear hfz30_1
        try clear hfz30_2
        try clear hfz32_0
        try clear hfz32_1
        try clear hfz32_2
        try clear hfz33_0
        try clear hfz33_1
        try clear hfz33_2
        try clear hfz35_0
        try clear hfz35_1
        try clear hfz35_2
        try clear hfz39_0
        try clear hfz39_1
        try clear hfz39_2
        try clear hfz47_0
        try clear hfz47_1
        try clear hfz47_2
        try clear hfz49_0
        try clear hfz49_1
        try clear hfz49_2
        try clear hx95005_0
        try clear hx95007_0
        try clear p2
        try clear p6
        try clear p9
        try clear p95005
        try clear p95007
        try clear q9
        try clear q95005
        try clear q95007
        obtain ⟨x7_3, rfl, HA, HK3, BK95001, BK95002, HB⟩ := hrel
        cases gk with
        | zero => exact absurd HA.out (by simp [spec_StateOk.l1])
        | succ k3 =>
         have H := HA.out
         clear HA
         simp only [spec_StateOk.l1] at H
         by_cases c50 : x7_3 ≤ 3
         ·rw [if_pos c50] at H
          have c50b0 : decide (x7_3 ≤ 3) = true := decide_eq_true c50
          clear c50
          replace H := Option.bind_eq_some_iff.mp H
          obtain ⟨t95009, A510, H⟩ := H; have A51 := Aside0.mk A510; clear A510
          obtain ⟨ji52, hji52⟩ : ∃ j_ : Int, (wrap64 (x7_3 - 1)) = j_ := ⟨_, rfl⟩
          replace H : (if 0 ≤ (ji52) then (if (ji52) < (l1_2.length : Int) then (if t95009 ≥ 0 then (if 0 ≤ t95009 then (if t95009 < (l1_1.length : Int) then (if (((rd l1_2 (ji52)) != 0) != ((rd l1_1 t95009) != (-1))) = true then (some false) else (spec_StateOk.l1 k3 (wrap64 (x7_3 + 1)) l0_0 l0_1 a0_2 a1_0 l1_1 l1_2)) else (none)) else (none)) else (if (((rd l1_2 (ji52)) != 0) != false) = true then (some false) else (spec_StateOk.l1 k3 (wrap64 (x7_3 + 1)) l0_0 l0_1 a0_2 a1_0 l1_1 l1_2))) else (none)) else (none)) = some r := by first | (rw [hji52] at H; exact H) | (simp only [hji52] at H ⊢; exact H)
          (try rw [hji52] at A51)
          have hji52w : (IntKind.i64.wrap (x7_3 - 1)) = ji52 := (i64_w _).trans hji52
          by_cases c53 : 0 ≤ (ji52)
          ·rw [if_pos c53] at H
           have c53b0 : decide (0 ≤ (ji52)) = true := decide_eq_true c53
           clear c53
           by_cases c54 : (ji52) < (l1_2.length : Int)
           ·rw [if_pos c54] at H
            have c54b0 : decide ((ji52) < (l1_2.length : Int)) = true := decide_eq_true c54
            clear c54
            by_cases c55 : t95009 ≥ 0
            ·rw [if_pos c55] at H
             have c55b0 : decide (0 ≤ t95009) = true := decide_eq_true c55
             clear c55
             by_cases c56 : 0 ≤ t95009
             ·rw [if_pos c56] at H
              have c56b0 : decide (0 ≤ t95009) = true := decide_eq_true c56
              clear c56
              by_cases c57 : t95009 < (l1_1.length : Int)
              ·rw [if_pos c57] at H
               have c57b0 : decide (t95009 < (l1_1.length : Int)) = true := decide_eq_true c57
               clear c57
               by_cases c58 : (((rd l1_2 (ji52)) != 0) != ((rd l1_1 t95009) != (-1))) = true
               ·rw [if_pos c58] at H
                have c58b0 : (((rd l1_2 (ji52)) != 0) != ((rd l1_1 t95009) != (-1))) = true := c58
                (try (have c58b1 : decide (((rd l1_2 (ji52)) != 0) = ((rd l1_1 t95009) != (-1))) = false := by simpa using c58))
                (try (have c58b2 : (((rd l1_2 (ji52)) != 0) == ((rd l1_1 t95009) != (-1))) = false := by simpa using c58))
                (try (have c58b3 : ¬ (((rd l1_2 (ji52)) != 0) = ((rd l1_1 t95009) != (-1))) := by simpa using c58))
                clear c58
                obtain rfl := Option.some.inj H
                have hcz60_0 : wr.cell? ⟨gb95001, 0, none⟩ = some (.slice A0_0 l0_0.length c0_0) := (blk_cell BK95001.out 0).trans rfl
                have hcz60_1 : wr.cell? ⟨gb95001, 1, none⟩ = some (.slice A0_1 l0_1.length c0_1) := (blk_cell BK95001.out 1).trans rfl
                have hcz60_2 : wr.cell? ⟨gb95001, 2, none⟩ = some (.int .i64 a0_2) := (blk_cell BK95001.out 2).trans rfl
                have hfz60_0 := blk_frozen BK95001.out 0
                have hfz60_1 := blk_frozen BK95001.out 1
                have hfz60_2 := blk_frozen BK95001.out 2
                go_wp2_with (first | (go_at_call 69; (with_reducible refine (spec_l08Watcher.calls k3 _ _ l0_0 _ _ l0_1 a0_2 x7_3 t95009 _ ?side1 ?side2 ?side3 ?side4 A51.out).mono ?_); (case side1 => repeat (first | exact (Kd.C_below HR0_0.out HB.out) | (with_reducible refine Kd.C_alloc ?_ _) | (with_reducible refine Kd.C_drewN ?_ _) | (with_reducible refine Kd.C_drew ?_))); (case side2 => exact HC0_0.out); (case side3 => repeat (first | exact (Kd.C_below HR0_1.out HB.out) | (with_reducible refine Kd.C_alloc ?_ _) | (with_reducible refine Kd.C_drewN ?_ _) | (with_reducible refine Kd.C_drew ?_))); (case side4 => exact HC0_1.out); rintro e w61 ⟨rfl, hb⟩; have n0_ := Aside0.mk (blk_below (g := gb95001) (o := .cells #[.slice A0_0 l0_0.length c0_0, .slice A0_1 l0_1.length c0_1, .int .i64 a0_2] 35 (0, 0)) (by (with_reducible repeat (first | refine blk_drewN ?_ _ | refine blk_drew ?_ | refine blk_alloc ?_ _)); exact BK95001.out) hb); have n1_ := Aside0.mk (blk_below (g := gb95002) (o := .cells #[.int .i64 a1_0, .slice A1_1 l1_1.length c1_1, .slice A1_2 l1_2.length c1_2] 66 (0, 0)) (by (with_reducible repeat (first | refine blk_drewN ?_ _ | refine blk_drew ?_ | refine blk_alloc ?_ _)); exact BK95002.out) hb); have n2_ := Aside0.mk (below_step (by repeat (first | (with_reducible first | exact HB.out | apply below_alloc | apply pw_below_drewN | apply below_drew1 | refine below_set ?_ GE95001.out | refine below_set ?_ GE95002.out) | exact HB.out)) hb); clear BK95001; clear BK95002; clear HB; have BK95001 := n0_; have BK95002 := n1_; have HB := n2_; clear n0_ n1_ n2_; have hcz62_0 : w61.cell? ⟨gb95002, 0, none⟩ = some (.int .i64 a1_0) := (blk_cell BK95002.out 0).trans rfl; have hcz62_1 : w61.cell? ⟨gb95002, 1, none⟩ = some (.slice A1_1 l1_1.length c1_1) := (blk_cell BK95002.out 1).trans rfl; have hcz62_2 : w61.cell? ⟨gb95002, 2, none⟩ = some (.slice A1_2 l1_2.length c1_2) := (blk_cell BK95002.out 2).trans rfl; have hfz62_0 := blk_frozen BK95002.out 0; have hfz62_1 := blk_frozen BK95002.out 1; have hfz62_2 := blk_frozen BK95002.out 2; have p95010 : 0 ≤ ((ji52) : Int) := of_decide_eq_true (by first | (with_reducible assumption) | assumption); have q95010 : (ji52) < (l1_2.length : Int) := of_decide_eq_true (by first | (with_reducible assumption) | assumption); obtain ⟨ad95010, e95010, hx95010_0⟩ := Kd.at_int HR1_2.out (ji52) p95010 q95010; cases e95010; replace hx95010_0 := (HB.out.cell (World.block_lt_of_cell? w _ hx95010_0)).trans hx95010_0; replace p95010 := eq_true p95010; replace q95010 := eq_true q95010; have p95011 : 0 ≤ (t95009 : Int) := of_decide_eq_true (by first | (with_reducible assumption) | assumption); have q95011 : t95009 < (l1_1.length : Int) := of_decide_eq_true (by first | (with_reducible assumption) | assumption); obtain ⟨ad95011, e95011, hx95011_0⟩ := Kd.at_int HR1_1.out t95009 p95011 q95011; cases e95011; replace hx95011_0 := (HB.out.cell (World.block_lt_of_cell? w _ hx95011_0)).trans hx95011_0; replace p95011 := eq_true p95011; replace q95011 := eq_true q95011))
                repeat (go_quiet (first | fail); try go_wp2_with (first | fail))
                go_ret
                exact ⟨by first | rfl | (simp [errW_none, errW_some] <;> rfl) | (simp only [← hji52]; first | rfl | (simp [errW_none, errW_some] <;> rfl)) | (simp [*, errW_none, errW_some] <;> rfl), by repeat (first | (with_reducible first | exact HB.out | apply below_alloc | apply pw_below_drewN | apply below_drew1 | refine below_set ?_ GE95001.out | refine below_set ?_ GE95002.out) | exact HB.out)⟩
               ·rw [if_neg c58] at H
                have c58b0 : (((rd l1_2 (ji52)) != 0) != ((rd l1_1 t95009) != (-1))) = false := by simpa using c58
                (try (have c58b1 : decide (((rd l1_2 (ji52)) != 0) = ((rd l1_1 t95009) != (-1))) = true := by simpa using c58))
                (try (have c58b2 : (((rd l1_2 (ji52)) != 0) == ((rd l1_1 t95009) != (-1))) = true := by simpa using c58))
                clear c58
                have H' := Aside0.mk H
                clear H
                have hcz64_0 : wr.cell? ⟨gb95001, 0, none⟩ = some (.slice A0_0 l0_0.length c0_0) := (blk_cell BK95001.out 0).trans rfl
                have hcz64_1 : wr.cell? ⟨gb95001, 1, none⟩ = some (.slice A0_1 l0_1.length c0_1) := (blk_cell BK95001.out 1).trans rfl
                have hcz64_2 : wr.cell? ⟨gb95001, 2, none⟩ = some (.int .i64 a0_2) := (blk_cell BK95001.out 2).trans rfl
                have hfz64_0 := blk_frozen BK95001.out 0
                have hfz64_1 := blk_frozen BK95001.out 1
                have hfz64_2 := blk_frozen BK95001.out 2
                go_wp2_with (first | (go_at_call 69; (with_reducible refine (spec_l08Watcher.calls k3 _ _ l0_0 _ _ l0_1 a0_2 x7_3 t95009 _ ?side1 ?side2 ?side3 ?side4 A51.out).mono ?_); (case side1 => repeat (first | exact (Kd.C_below HR0_0.out HB.out) | (with_reducible refine Kd.C_alloc ?_ _) | (with_reducible refine Kd.C_drewN ?_ _) | (with_reducible refine Kd.C_drew ?_))); (case side2 => exact HC0_0.out); (case side3 => repeat (first | exact (Kd.C_below HR0_1.out HB.out) | (with_reducible refine Kd.C_alloc ?_ _) | (with_reducible refine Kd.C_drewN ?_ _) | (with_reducible refine Kd.C_drew ?_))); (case side4 => exact HC0_1.out); rintro e w65 ⟨rfl, hb⟩; have n0_ := Aside0.mk (blk_below (g := gb95001) (o := .cells #[.slice A0_0 l0_0.length c0_0, .slice A0_1 l0_1.length c0_1, .int .i64 a0_2] 35 (0, 0)) (by (with_reducible repeat (first | refine blk_drewN ?_ _ | refine blk_drew ?_ | refine blk_alloc ?_ _)); exact BK95001.out) hb); have n1_ := Aside0.mk (blk_below (g := gb95002) (o := .cells #[.int .i64 a1_0, .slice A1_1 l1_1.length c1_1, .slice A1_2 l1_2.length c1_2] 66 (0, 0)) (by (with_reducible repeat (first | refine blk_drewN ?_ _ | refine blk_drew ?_ | refine blk_alloc ?_ _)); exact BK95002.out) hb); have n2_ := Aside0.mk (below_step (by repeat (first | (with_reducible first | exact HB.out | apply below_alloc | apply pw_below_drewN | apply below_drew1 | refine below_set ?_ GE95001.out | refine below_set ?_ GE95002.out) | exact HB.out)) hb); clear BK95001; clear BK95002; clear HB; have BK95001 := n0_; have BK95002 := n1_; have HB := n2_; clear n0_ n1_ n2_; have hcz66_0 : w65.cell? ⟨gb95002, 0, none⟩ = some (.int .i64 a1_0) := (blk_cell BK95002.out 0).trans rfl; have hcz66_1 : w65.cell? ⟨gb95002, 1, none⟩ = some (.slice A1_1 l1_1.length c1_1) := (blk_cell BK95002.out 1).trans rfl; have hcz66_2 : w65.cell? ⟨gb95002, 2, none⟩ = some (.slice A1_2 l1_2.length c1_2) := (blk_cell BK95002.out 2).trans rfl; have hfz66_0 := blk_frozen BK95002.out 0; have hfz66_1 := blk_frozen BK95002.out 1; have hfz66_2 := blk_frozen BK95002.out 2; have p95010 : 0 ≤ ((ji52) : Int) := of_decide_eq_true (by first | (with_reducible assumption) | assumption); have q95010 : (ji52) < (l1_2.length : Int) := of_decide_eq_true (by first | (with_reducible assumption) | assumption); obtain ⟨ad95010, e95010, hx95010_0⟩ := Kd.at_int HR1_2.out (ji52) p95010 q95010; cases e95010; replace hx95010_0 := (HB.out.cell (World.block_lt_of_cell? w _ hx95010_0)).trans hx95010_0; replace p95010 := eq_true p95010; replace q95010 := eq_true q95010; have p95011 : 0 ≤ (t95009 : Int) := of_decide_eq_true (by first | (with_reducible assumption) | assumption); have q95011 : t95009 < (l1_1.length : Int) := of_decide_eq_true (by first | (with_reducible assumption) | assumption); obtain ⟨ad95011, e95011, hx95011_0⟩ := Kd.at_int HR1_1.out t95009 p95011 q95011; cases e95011; replace hx95011_0 := (HB.out.cell (World.block_lt_of_cell? w _ hx95011_0)).trans hx95011_0; replace p95011 := eq_true p95011; replace q95011 := eq_true q95011))
                repeat (go_quiet (first | fail); try go_wp2_with (first | fail))
                go_roundg k3
                case measure => have := HJ2.out; have := HK2.out; have := HK3.out; omega
                case rel => exact ⟨(wrap64 (x7_3 + 1)), (by first | rfl | (simp; done) | (simp [*]; done)), H', ⟨by have := HJ2.out; have := HK2.out; have := HK3.out; omega⟩, ⟨by (with_reducible repeat (first | refine blk_drewN ?_ _ | refine blk_drew ?_ | refine blk_alloc ?_ _)); exact BK95001.out⟩, ⟨by (with_reducible repeat (first | refine blk_drewN ?_ _ | refine blk_drew ?_ | refine blk_alloc ?_ _)); exact BK95002.out⟩, ⟨by repeat (first | (with_reducible first | exact HB.out | apply below_alloc | apply pw_below_drewN | apply below_drew1 | refine below_set ?_ GE95001.out | refine below_set ?_ GE95002.out) | exact HB.out)⟩⟩
              ·rw [if_neg c57] at H
               exact absurd H (by simp)
             ·rw [if_neg c56] at H
              exact absurd H (by simp)
            ·rw [if_neg c55] at H
             have c55b0 : decide (0 ≤ t95009) = false := decide_eq_false c55
             clear c55
             by_cases c67 : (((rd l1_2 (ji52)) != 0) != false) = true
             ·rw [if_pos c67] at H
              have c67b0 : (((rd l1_2 (ji52)) != 0) != false) = true := c67
              (try (have c67b1 : decide (((rd l1_2 (ji52)) != 0) = false) = false := by simpa using c67))
              (try (have c67b2 : (((rd l1_2 (ji52)) != 0) == false) = false := by simpa using c67))
              (try (have c67b3 : ¬ (((rd l1_2 (ji52)) != 0) = false) := by simpa using c67))
              clear c67
              obtain rfl := Option.some.inj H
              have hcz69_0 : wr.cell? ⟨gb95001, 0, none⟩ = some (.slice A0_0 l0_0.length c0_0) := (blk_cell BK95001.out 0).trans rfl
              have hcz69_1 : wr.cell? ⟨gb95001, 1, none⟩ = some (.slice A0_1 l0_1.length c0_1) := (blk_cell BK95001.out 1).trans rfl
              have hcz69_2 : wr.cell? ⟨gb95001, 2, none⟩ = some (.int .i64 a0_2) := (blk_cell BK95001.out 2).trans rfl
              have hfz69_0 := blk_frozen BK95001.out 0
              have hfz69_1 := blk_frozen BK95001.out 1
              have hfz69_2 := blk_frozen BK95001.out 2
              go_wp2_with (first | (go_at_call 69; (with_reducible refine (spec_l08Watcher.calls k3 _ _ l0_0 _ _ l0_1 a0_2 x7_3 t95009 _ ?side1 ?side2 ?side3 ?side4 A51.out).mono ?_); (case side1 => repeat (first | exact (Kd.C_below HR0_0.out HB.out) | (with_reducible refine Kd.C_alloc ?_ _) | (with_reducible refine Kd.C_drewN ?_ _) | (with_reducible refine Kd.C_drew ?_))); (case side2 => exact HC0_0.out); (case side3 => repeat (first | exact (Kd.C_below HR0_1.out HB.out) | (with_reducible refine Kd.C_alloc ?_ _) | (with_reducible refine Kd.C_drewN ?_ _) | (with_reducible refine Kd.C_drew ?_))); (case side4 => exact HC0_1.out); rintro e w70 ⟨rfl, hb⟩; have n0_ := Aside0.mk (blk_below (g := gb95001) (o := .cells #[.slice A0_0 l0_0.length c0_0, .slice A0_1 l0_1.length c0_1, .int .i64 a0_2] 35 (0, 0)) (by (with_reducible repeat (first | refine blk_drewN ?_ _ | refine blk_drew ?_ | refine blk_alloc ?_ _)); exact BK95001.out) hb); have n1_ := Aside0.mk (blk_below (g := gb95002) (o := .cells #[.int .i64 a1_0, .slice A1_1 l1_1.length c1_1, .slice A1_2 l1_2.length c1_2] 66 (0, 0)) (by (with_reducible repeat (first | refine blk_drewN ?_ _ | refine blk_drew ?_ | refine blk_alloc ?_ _)); exact BK95002.out) hb); have n2_ := Aside0.mk (below_step (by repeat (first | (with_reducible first | exact HB.out | apply below_alloc | apply pw_below_drewN | apply below_drew1 | refine below_set ?_ GE95001.out | refine below_set ?_ GE95002.out) | exact HB.out)) hb); clear BK95001; clear BK95002; clear HB; have BK95001 := n0_; have BK95002 := n1_; have HB := n2_; clear n0_ n1_ n2_; have hcz71_0 : w70.cell? ⟨gb95002, 0, none⟩ = some (.int .i64 a1_0) := (blk_cell BK95002.out 0).trans rfl; have hcz71_1 : w70.cell? ⟨gb95002, 1, none⟩ = some (.slice A1_1 l1_1.length c1_1) := (blk_cell BK95002.out 1).trans rfl; have hcz71_2 : w70.cell? ⟨gb95002, 2, none⟩ = some (.slice A1_2 l1_2.length c1_2) := (blk_cell BK95002.out 2).trans rfl; have hfz71_0 := blk_frozen BK95002.out 0; have hfz71_1 := blk_frozen BK95002.out 1; have hfz71_2 := blk_frozen BK95002.out 2; have p95010 : 0 ≤ ((ji52) : Int) := of_decide_eq_true (by first | (with_reducible assumption) | assumption); have q95010 : (ji52) < (l1_2.length : Int) := of_decide_eq_true (by first | (with_reducible assumption) | assumption); obtain ⟨ad95010, e95010, hx95010_0⟩ := Kd.at_int HR1_2.out (ji52) p95010 q95010; cases e95010; replace hx95010_0 := (HB.out.cell (World.block_lt_of_cell? w _ hx95010_0)).trans hx95010_0; replace p95010 := eq_true p95010; replace q95010 := eq_true q95010))
              repeat (go_quiet (first | fail); try go_wp2_with (first | fail))
              go_ret
              exact ⟨by first | rfl | (simp [errW_none, errW_some] <;> rfl) | (simp only [← hji52]; first | rfl | (simp [errW_none, errW_some] <;> rfl)) | (simp [*, errW_none, errW_some] <;> rfl), by repeat (first | (with_reducible first | exact HB.out | apply below_alloc | apply pw_below_drewN | apply below_drew1 | refine below_set ?_ GE95001.out | refine below_set ?_ GE95002.out) | exact HB.out)⟩
             ·rw [if_neg c67] at H
              have c67b0 : (((rd l1_2 (ji52)) != 0) != false) = false := by simpa using c67
              (try (have c67b1 : decide (((rd l1_2 (ji52)) != 0) = false) = true := by simpa using c67))
              (try (have c67b2 : (((rd l1_2 (ji52)) != 0) == false) = true := by simpa using c67))
              clear c67
              have H' := Aside0.mk H
              clear H
              have hcz73_0 : wr.cell? ⟨gb95001, 0, none⟩ = some (.slice A0_0 l0_0.length c0_0) := (blk_cell BK95001.out 0).trans rfl
              have hcz73_1 : wr.cell? ⟨gb95001, 1, none⟩ = some (.slice A0_1 l0_1.length c0_1) := (blk_cell BK95001.out 1).trans rfl
              have hcz73_2 : wr.cell? ⟨gb95001, 2, none⟩ = some (.int .i64 a0_2) := (blk_cell BK95001.out 2).trans rfl
              have hfz73_0 := blk_frozen BK95001.out 0
              have hfz73_1 := blk_frozen BK95001.out 1
              have hfz73_2 := blk_frozen BK95001.out 2
              go_wp2_with (first | (go_at_call 69; (with_reducible refine (spec_l08Watcher.calls k3 _ _ l0_0 _ _ l0_1 a0_2 x7_3 t95009 _ ?side1 ?side2 ?side3 ?side4 A51.out).mono ?_); (case side1 => repeat (first | exact (Kd.C_below HR0_0.out HB.out) | (with_reducible refine Kd.C_alloc ?_ _) | (with_reducible refine Kd.C_drewN ?_ _) | (with_reducible refine Kd.C_drew ?_))); (case side2 => exact HC0_0.out); (case side3 => repeat (first | exact (Kd.C_below HR0_1.out HB.out) | (with_reducible refine Kd.C_alloc ?_ _) | (with_reducible refine Kd.C_drewN ?_ _) | (with_reducible refine Kd.C_drew ?_))); (case side4 => exact HC0_1.out); rintro e w74 ⟨rfl, hb⟩; have n0_ := Aside0.mk (blk_below (g := gb95001) (o := .cells #[.slice A0_0 l0_0.length c0_0, .slice A0_1 l0_1.length c0_1, .int .i64 a0_2] 35 (0, 0)) (by (with_reducible repeat (first | refine blk_drewN ?_ _ | refine blk_drew ?_ | refine blk_alloc ?_ _)); exact BK95001.out) hb); have n1_ := Aside0.mk (blk_below (g := gb95002) (o := .cells #[.int .i64 a1_0, .slice A1_1 l1_1.length c1_1, .slice A1_2 l1_2.length c1_2] 66 (0, 0)) (by (with_reducible repeat (first | refine blk_drewN ?_ _ | refine blk_drew ?_ | refine blk_alloc ?_ _)); exact BK95002.out) hb); have n2_ := Aside0.mk (below_step (by repeat (first | (with_reducible first | exact HB.out | apply below_alloc | apply pw_below_drewN | apply below_drew1 | refine below_set ?_ GE95001.out | refine below_set ?_ GE95002.out) | exact HB.out)) hb); clear BK95001; clear BK95002; clear HB; have BK95001 := n0_; have BK95002 := n1_; have HB := n2_; clear n0_ n1_ n2_; have hcz75_0 : w74.cell? ⟨gb95002, 0, none⟩ = some (.int .i64 a1_0) := (blk_cell BK95002.out 0).trans rfl; have hcz75_1 : w74.cell? ⟨gb95002, 1, none⟩ = some (.slice A1_1 l1_1.length c1_1) := (blk_cell BK95002.out 1).trans rfl; have hcz75_2 : w74.cell? ⟨gb95002, 2, none⟩ = some (.slice A1_2 l1_2.length c1_2) := (blk_cell BK95002.out 2).trans rfl; have hfz75_0 := blk_frozen BK95002.out 0; have hfz75_1 := blk_frozen BK95002.out 1; have hfz75_2 := blk_frozen BK95002.out 2; have p95010 : 0 ≤ ((ji52) : Int) := of_decide_eq_true (by first | (with_reducible assumption) | assumption); have q95010 : (ji52) < (l1_2.length : Int) := of_decide_eq_true (by first | (with_reducible assumption) | assumption); obtain ⟨ad95010, e95010, hx95010_0⟩ := Kd.at_int HR1_2.out (ji52) p95010 q95010; cases e95010; replace hx95010_0 := (HB.out.cell (World.block_lt_of_cell? w _ hx95010_0)).trans hx95010_0; replace p95010 := eq_true p95010; replace q95010 := eq_true q95010))
              repeat (go_quiet (first | fail); try go_wp2_with (first | fail))
              go_roundg k3
              case measure => have := HJ2.out; have := HK2.out; have := HK3.out; omega
              case rel => exact ⟨(wrap64 (x7_3 + 1)), (by first | rfl | (simp; done) | (simp [*]; done)), H', ⟨by have := HJ2.out; have := HK2.out; have := HK3.out; omega⟩, ⟨by (with_reducible repeat (first | refine blk_drewN ?_ _ | refine blk_drew ?_ | refine blk_alloc ?_ _)); exact BK95001.out⟩, ⟨by (with_reducible repeat (first | refine blk_drewN ?_ _ | refine blk_drew ?_ | refine blk_alloc ?_ _)); exact BK95002.out⟩, ⟨by repeat (first | (with_reducible first | exact HB.out | apply below_alloc | apply pw_below_drewN | apply below_drew1 | refine below_set ?_ GE95001.out | refine below_set ?_ GE95002.out) | exact HB.out)⟩⟩
           ·rw [if_neg c54] at H
            exact absurd H (by simp)
          ·rw [if_neg c53] at H
           exact absurd H (by simp)
         ·rw [if_neg c50] at H
          have c50b0 : decide (x7_3 ≤ 3) = false := decide_eq_false c50
          clear c50
          obtain rfl := Option.some.inj H
          go_wp2
          repeat (go_quiet (fail); try go_wp2)
          go_ret
          exact ⟨by first | rfl | (simp [errW_none, errW_some] <;> rfl) | (simp [*, errW_none, errW_some] <;> rfl), by repeat (first | (with_reducible first | exact HB.out | apply below_alloc | apply pw_below_drewN | apply below_drew1 | refine below_set ?_ GE95001.out | refine below_set ?_ GE95002.out) | exact HB.out)⟩

end Go.Proofs.Ytodfnelilhjoeaa.Pr

namespace Go.Proofs.Ytodfnelilhjoeaa.Pr
open Go.RowKit Go.Proofs.YtodfnelilhjoeaaW.PrintWords Go.Proofs.YtodfnelilhjoeaaW.PrintLast Go.Proofs.YtodfnelilhjoeaaW.PrintMore
attribute [local go_sem] max2_int min2_int max_two min_two max_three min_three max_four min_four
set_option linter.unusedVariables false
set_option linter.unusedSimpArgs false

/-! ### spec_ActiveTies: function 51 -/
def spec_ActiveTies.f (k : Nat) (l0_0 : List (S116)) (l0_1 : List (S90)) (a0_2 : Int) (a1_0 : Int) (l1_1 : List Int) (l1_2 : List Int) : Option (List Int) := (spec_StateOk.f k l0_0 l0_1 a0_2 a1_0 l1_1 l1_2).bind fun t51003 => (if t51003 = true then ((spec_l13Active.f k l0_0 l0_1 a0_2 a1_0 l1_1 l1_2).bind fun t51004 => (some t51004)) else (some ([] : List Int)))
set_option maxHeartbeats 8000000 in
set_option maxRecDepth 100000 in
theorem spec_ActiveTies.calls (k : Nat) (A0_0 : Option Addr) (c0_0 : Nat) (l0_0 : List (S116)) (A0_1 : Option Addr) (c0_1 : Nat) (l0_1 : List (S90)) (a0_2 : Int) (a1_0 : Int) (A1_1 : Option Addr) (c1_1 : Nat) (l1_1 : List Int) (A1_2 : Option Addr) (c1_2 : Nat) (l1_2 : List Int) (r : List Int) (w : World) (hr0_0 : Kd.C k116 w A0_0 l0_0.length l0_0) (hc0_0 : l0_0.length ≤ c0_0) (hr0_1 : Kd.C k90 w A0_1 l0_1.length l0_1) (hc0_1 : l0_1.length ≤ c0_1) (hr1_1 : Kd.C (Kd.int .i64) w A1_1 l1_1.length l1_1) (hc1_1 : l1_1.length ≤ c1_1) (hr1_2 : Kd.C (Kd.int .i64) w A1_2 l1_2.length l1_2) (hc1_2 : l1_2.length ≤ c1_2) (h : spec_ActiveTies.f k l0_0 l0_1 a0_2 a1_0 l1_1 l1_2 = some r) :
  Calls Try.prog 51 #[.agg #[.slice A0_0 l0_0.length c0_0, .slice A0_1 l0_1.length c0_1, .int .i64 a0_2], .agg #[.int .i64 a1_0, .slice A1_1 l1_1.length c1_1, .slice A1_2 l1_2.length c1_2]] w fun e w' => ∃ v0_ : Value, e = .returned (v0_) ∧ Kd.R (Kd.int .i64) 3 w' w.heap.size (fun _ => True) v0_ r ∧ Below w.heap.size w w' := by
 have hu35 := Try.underlying35
 have hu66 := Try.underlying66
 have HR0_0 := Aside0.mk hr0_0; have HC0_0 := Aside0.mk hc0_0; clear hr0_0 hc0_0; have HR0_1 := Aside0.mk hr0_1; have HC0_1 := Aside0.mk hc0_1; clear hr0_1 hc0_1; have HR1_1 := Aside0.mk hr1_1; have HC1_1 := Aside0.mk hc1_1; clear hr1_1 hc1_1; have HR1_2 := Aside0.mk hr1_2; have HC1_2 := Aside0.mk hc1_2; clear hr1_2 hc1_2
 have HB := Aside0.mk (Below.refl w.heap.size w)
 have H : ((spec_StateOk.f k l0_0 l0_1 a0_2 a1_0 l1_1 l1_2).bind fun t51003 => (if t51003 = true then ((spec_l13Active.f k l0_0 l0_1 a0_2 a1_0 l1_1 l1_2).bind fun t51004 => (some t51004)) else (some ([] : List Int)))) = some r := h
 clear h
 replace H := Option.bind_eq_some_iff.mp H
 obtain ⟨t51003, A30, H⟩ := H; have A3 := Aside0.mk A30; clear A30
 by_cases c4 : t51003 = true
 ·subst c4
  rw [if_pos rfl] at H
  replace H := Option.bind_eq_some_iff.mp H
  obtain ⟨t51004, A50, H⟩ := H; have A5 := Aside0.mk A50; clear A50
  obtain rfl := Option.some.inj H
  go_enter Try.func51, Try.ntmps51
  go_wp2_with (first | ((with_reducible refine gate_dst (N := 2) rfl ?_); refine box_event ?hg (N := 2) ?hd (cs := #[.slice A0_0 l0_0.length c0_0, .slice A0_1 l0_1.length c0_1, .int .i64 a0_2]) (t := 35) ?hr ?_; (case hd => rfl); (case hg => rfl); (case hr => first | (go_simp; done) | (go_simp; rfl)); intro gb51001 hg w6 hbox hb; have n0_ := Aside0.mk (below_step (by repeat (first | (with_reducible first | exact HB.out | apply below_alloc | apply pw_below_drewN | apply below_drew1) | exact HB.out)) hb); have n1_ := Aside0.mk (hbox); have n2_ := Aside0.mk ((by rw [hg]; exact (below_size (by repeat (first | (with_reducible first | exact HB.out | apply below_alloc | apply pw_below_drewN | apply below_drew1) | exact HB.out))) : w.heap.size ≤ gb51001)); have n3_ := Aside0.mk ((by rw [hg]; exact (below_size (by repeat (first | (with_reducible first | exact HB.out | apply below_alloc | apply pw_below_drewN | apply below_drew1) | exact HB.out))) : w.heap.size ≤ gb51001)); clear HB; have HB := n0_; have BK51001 := n1_; have GW51001 := n2_; have GE51001 := n3_; clear n0_ n1_ n2_ n3_; clear hb hbox hg) | ((with_reducible refine gate_dst (N := 3) rfl ?_); refine box_event ?hg (N := 3) ?hd (cs := #[.int .i64 a1_0, .slice A1_1 l1_1.length c1_1, .slice A1_2 l1_2.length c1_2]) (t := 66) ?hr ?_; (case hd => rfl); (case hg => rfl); (case hr => first | (go_simp; done) | (go_simp; rfl)); intro gb51002 hg w7 hbox hb; have n0_ := Aside0.mk (blk_below (g := gb51001) (o := .cells #[.slice A0_0 l0_0.length c0_0, .slice A0_1 l0_1.length c0_1, .int .i64 a0_2] 35 (0, 0)) (by (with_reducible repeat (first | refine blk_drewN ?_ _ | refine blk_drew ?_ | refine blk_alloc ?_ _)); exact BK51001.out) hb); have n1_ := Aside0.mk (below_step (by repeat (first | (with_reducible first | exact HB.out | apply below_alloc | apply pw_below_drewN | apply below_drew1 | refine below_set ?_ GE51001.out) | exact HB.out)) hb); have n2_ := Aside0.mk (hbox); have n3_ := Aside0.mk ((by rw [hg]; exact (below_size (by repeat (first | (with_reducible first | exact HB.out | apply below_alloc | apply pw_below_drewN | apply below_drew1 | refine below_set ?_ GE51001.out) | exact HB.out))) : w.heap.size ≤ gb51002)); have n4_ := Aside0.mk ((by rw [hg]; exact (below_size (by repeat (first | (with_reducible first | exact HB.out | apply below_alloc | apply pw_below_drewN | apply below_drew1 | refine below_set ?_ GE51001.out) | exact HB.out))) : w.heap.size ≤ gb51002)); have n5_ := Aside0.mk ((by rw [hg]; exact Nat.ne_of_lt (blk_lt (g := gb51001) (o := .cells #[.slice A0_0 l0_0.length c0_0, .slice A0_1 l0_1.length c0_1, .int .i64 a0_2] 35 (0, 0)) (by (with_reducible repeat (first | refine blk_drewN ?_ _ | refine blk_drew ?_ | refine blk_alloc ?_ _)); exact BK51001.out)) : gb51001 ≠ gb51002)); have n6_ := Aside0.mk ((by rw [hg]; exact Nat.ne_of_gt (blk_lt (g := gb51001) (o := .cells #[.slice A0_0 l0_0.length c0_0, .slice A0_1 l0_1.length c0_1, .int .i64 a0_2] 35 (0, 0)) (by (with_reducible repeat (first | refine blk_drewN ?_ _ | refine blk_drew ?_ | refine blk_alloc ?_ _)); exact BK51001.out)) : gb51002 ≠ gb51001)); clear BK51001; clear HB; have BK51001 := n0_; have HB := n1_; have BK51002 := n2_; have GW51002 := n3_; have GE51002 := n4_; have NB51001_51002 := n5_; have NB51002_51001 := n6_; clear n0_ n1_ n2_ n3_ n4_ n5_ n6_; clear hb hbox hg; have hnb8 := NB51001_51002.out; have hnc8 := NB51002_51001.out; have hcz9_0 : w7.cell? ⟨gb51001, 0, none⟩ = some (.slice A0_0 l0_0.length c0_0) := (blk_cell BK51001.out 0).trans rfl; have hcz9_1 : w7.cell? ⟨gb51001, 1, none⟩ = some (.slice A0_1 l0_1.length c0_1) := (blk_cell BK51001.out 1).trans rfl; have hcz9_2 : w7.cell? ⟨gb51001, 2, none⟩ = some (.int .i64 a0_2) := (blk_cell BK51001.out 2).trans rfl; have hfz9_0 := blk_frozen BK51001.out 0; have hfz9_1 := blk_frozen BK51001.out 1; have hfz9_2 := blk_frozen BK51001.out 2; have hcz10_0 : w7.cell? ⟨gb51002, 0, none⟩ = some (.int .i64 a1_0) := (blk_cell BK51002.out 0).trans rfl; have hcz10_1 : w7.cell? ⟨gb51002, 1, none⟩ = some (.slice A1_1 l1_1.length c1_1) := (blk_cell BK51002.out 1).trans rfl; have hcz10_2 : w7.cell? ⟨gb51002, 2, none⟩ = some (.slice A1_2 l1_2.length c1_2) := (blk_cell BK51002.out 2).trans rfl; have hfz10_0 := blk_frozen BK51002.out 0; have hfz10_1 := blk_frozen BK51002.out 1; have hfz10_2 := blk_frozen BK51002.out 2) | ((with_reducible refine gate_callee (f := 95) rfl ?_); refine goesL_ (some 7) rfl rfl Try.func95 (by kernel_rfl) rfl #[.agg #[.slice A0_0 l0_0.length c0_0, .slice A0_1 l0_1.length c0_1, .int .i64 a0_2], .agg #[.int .i64 a1_0, .slice A1_1 l1_1.length c1_1, .slice A1_2 l1_2.length c1_2]] rfl (by (try simp only [List.map_toArray, List.map_cons, List.map_nil]); first | done | rfl | (simp only [List.length_drop, List.length_take]; rfl)) ?_; (with_reducible refine (spec_StateOk.calls k _ _ l0_0 _ _ l0_1 a0_2 a1_0 _ _ l1_1 _ _ l1_2 true _ ?side1 ?side2 ?side3 ?side4 ?side5 ?side6 ?side7 ?side8 A3.out).mono ?_); (case side1 => repeat (first | exact (Kd.C_below HR0_0.out HB.out) | (with_reducible refine Kd.C_alloc ?_ _) | (with_reducible refine Kd.C_drewN ?_ _) | (with_reducible refine Kd.C_drew ?_))); (case side2 => exact HC0_0.out); (case side3 => repeat (first | exact (Kd.C_below HR0_1.out HB.out) | (with_reducible refine Kd.C_alloc ?_ _) | (with_reducible refine Kd.C_drewN ?_ _) | (with_reducible refine Kd.C_drew ?_))); (case side4 => exact HC0_1.out); (case side5 => repeat (first | exact (Kd.C_below HR1_1.out HB.out) | (with_reducible refine Kd.C_alloc ?_ _) | (with_reducible refine Kd.C_drewN ?_ _) | (with_reducible refine Kd.C_drew ?_))); (case side6 => exact HC1_1.out); (case side7 => repeat (first | exact (Kd.C_below HR1_2.out HB.out) | (with_reducible refine Kd.C_alloc ?_ _) | (with_reducible refine Kd.C_drewN ?_ _) | (with_reducible refine Kd.C_drew ?_))); (case side8 => exact HC1_2.out); rintro e w11 ⟨rfl, hb⟩; refine ⟨_, rfl, ?_⟩; have n0_ := Aside0.mk (blk_below (g := gb51001) (o := .cells #[.slice A0_0 l0_0.length c0_0, .slice A0_1 l0_1.length c0_1, .int .i64 a0_2] 35 (0, 0)) (by (with_reducible repeat (first | refine blk_drewN ?_ _ | refine blk_drew ?_ | refine blk_alloc ?_ _)); exact BK51001.out) hb); have n1_ := Aside0.mk (blk_below (g := gb51002) (o := .cells #[.int .i64 a1_0, .slice A1_1 l1_1.length c1_1, .slice A1_2 l1_2.length c1_2] 66 (0, 0)) (by (with_reducible repeat (first | refine blk_drewN ?_ _ | refine blk_drew ?_ | refine blk_alloc ?_ _)); exact BK51002.out) hb); have n2_ := Aside0.mk (below_step (by repeat (first | (with_reducible first | exact HB.out | apply below_alloc | apply pw_below_drewN | apply below_drew1 | refine below_set ?_ GE51001.out | refine below_set ?_ GE51002.out) | exact HB.out)) hb); clear BK51001; clear BK51002; clear HB; have BK51001 := n0_; have BK51002 := n1_; have HB := n2_; clear n0_ n1_ n2_; have hcz12_0 : w11.cell? ⟨gb51001, 0, none⟩ = some (.slice A0_0 l0_0.length c0_0) := (blk_cell BK51001.out 0).trans rfl; have hcz12_1 : w11.cell? ⟨gb51001, 1, none⟩ = some (.slice A0_1 l0_1.length c0_1) := (blk_cell BK51001.out 1).trans rfl; have hcz12_2 : w11.cell? ⟨gb51001, 2, none⟩ = some (.int .i64 a0_2) := (blk_cell BK51001.out 2).trans rfl; have hfz12_0 := blk_frozen BK51001.out 0; have hfz12_1 := blk_frozen BK51001.out 1; have hfz12_2 := blk_frozen BK51001.out 2; have hcz13_0 : w11.cell? ⟨gb51002, 0, none⟩ = some (.int .i64 a1_0) := (blk_cell BK51002.out 0).trans rfl; have hcz13_1 : w11.cell? ⟨gb51002, 1, none⟩ = some (.slice A1_1 l1_1.length c1_1) := (blk_cell BK51002.out 1).trans rfl; have hcz13_2 : w11.cell? ⟨gb51002, 2, none⟩ = some (.slice A1_2 l1_2.length c1_2) := (blk_cell BK51002.out 2).trans rfl; have hfz13_0 := blk_frozen BK51002.out 0; have hfz13_1 := blk_frozen BK51002.out 1; have hfz13_2 := blk_frozen BK51002.out 2) | ((with_reducible refine gate_callee (f := 103) rfl ?_); refine goesL_ (some 11) rfl rfl Try.func103 (by kernel_rfl) rfl #[.agg #[.slice A0_0 l0_0.length c0_0, .slice A0_1 l0_1.length c0_1, .int .i64 a0_2], .agg #[.int .i64 a1_0, .slice A1_1 l1_1.length c1_1, .slice A1_2 l1_2.length c1_2]] rfl (by (try simp only [List.map_toArray, List.map_cons, List.map_nil]); first | done | rfl | (simp only [List.length_drop, List.length_take]; rfl)) ?_; (with_reducible refine (spec_l13Active.calls k _ _ l0_0 _ _ l0_1 a0_2 a1_0 _ _ l1_1 _ _ l1_2 t51004 _ ?side1 ?side2 ?side3 ?side4 ?side5 ?side6 ?side7 ?side8 A5.out).mono ?_); (case side1 => repeat (first | exact (Kd.C_below HR0_0.out HB.out) | (with_reducible refine Kd.C_alloc ?_ _) | (with_reducible refine Kd.C_drewN ?_ _) | (with_reducible refine Kd.C_drew ?_))); (case side2 => exact HC0_0.out); (case side3 => repeat (first | exact (Kd.C_below HR0_1.out HB.out) | (with_reducible refine Kd.C_alloc ?_ _) | (with_reducible refine Kd.C_drewN ?_ _) | (with_reducible refine Kd.C_drew ?_))); (case side4 => exact HC0_1.out); (case side5 => repeat (first | exact (Kd.C_below HR1_1.out HB.out) | (with_reducible refine Kd.C_alloc ?_ _) | (with_reducible refine Kd.C_drewN ?_ _) | (with_reducible refine Kd.C_drew ?_))); (case side6 => exact HC1_1.out); (case side7 => repeat (first | exact (Kd.C_below HR1_2.out HB.out) | (with_reducible refine Kd.C_alloc ?_ _) | (with_reducible refine Kd.C_drewN ?_ _) | (with_reducible refine Kd.C_drew ?_))); (case side8 => exact HC1_2.out); rintro e w14 ⟨v51005, rfl, ho0, hb⟩; refine ⟨_, rfl, ?_⟩; have n0_ := Aside0.mk (Kd.R_lower ho0 (below_size (by repeat (first | (with_reducible first | exact HB.out | apply below_alloc | apply pw_below_drewN | apply below_drew1 | refine below_set ?_ GE51001.out | refine below_set ?_ GE51002.out) | exact HB.out)))); have n1_ := Aside0.mk (blk_below (g := gb51001) (o := .cells #[.slice A0_0 l0_0.length c0_0, .slice A0_1 l0_1.length c0_1, .int .i64 a0_2] 35 (0, 0)) (by (with_reducible repeat (first | refine blk_drewN ?_ _ | refine blk_drew ?_ | refine blk_alloc ?_ _)); exact BK51001.out) hb); have n2_ := Aside0.mk (blk_below (g := gb51002) (o := .cells #[.int .i64 a1_0, .slice A1_1 l1_1.length c1_1, .slice A1_2 l1_2.length c1_2] 66 (0, 0)) (by (with_reducible repeat (first | refine blk_drewN ?_ _ | refine blk_drew ?_ | refine blk_alloc ?_ _)); exact BK51002.out) hb); have n3_ := Aside0.mk (below_step (by repeat (first | (with_reducible first | exact HB.out | apply below_alloc | apply pw_below_drewN | apply below_drew1 | refine below_set ?_ GE51001.out | refine below_set ?_ GE51002.out) | exact HB.out)) hb); clear BK51001; clear BK51002; clear HB; have HO51006 := n0_; have BK51001 := n1_; have BK51002 := n2_; have HB := n3_; clear n0_ n1_ n2_ n3_; (try clear ho0)))
  go_ret
  exact ⟨_, by first | rfl | (simp [errW_none, errW_some] <;> rfl) | (simp [*, errW_none, errW_some] <;> rfl), by (with_reducible repeat (first | apply Kd.R_alloc | apply Kd.R_drewN | apply Kd.R_drew)); exact HO51006.out, by repeat (first | (with_reducible first | exact HB.out | apply below_alloc | apply pw_below_drewN | apply below_drew1 | refine below_set ?_ GE51001.out | refine below_set ?_ GE51002.out) | exact HB.out)⟩
 ·replace c4 := Bool.eq_false_iff.mpr c4
  subst c4
  have H1 : (some ([] : List Int)) = some r := by rw [if_neg (show ¬ (false = true) by decide)] at H; exact H
  clear H
  have H := H1
  clear H1
  obtain rfl := Option.some.inj H
  go_enter Try.func51, Try.ntmps51
  go_wp2_with (first | ((with_reducible refine gate_dst (N := 2) rfl ?_); refine box_event ?hg (N := 2) ?hd (cs := #[.slice A0_0 l0_0.length c0_0, .slice A0_1 l0_1.length c0_1, .int .i64 a0_2]) (t := 35) ?hr ?_; (case hd => rfl); (case hg => rfl); (case hr => first | (go_simp; done) | (go_simp; rfl)); intro gb51001 hg w15 hbox hb; have n0_ := Aside0.mk (below_step (by repeat (first | (with_reducible first | exact HB.out | apply below_alloc | apply pw_below_drewN | apply below_drew1) | exact HB.out)) hb); have n1_ := Aside0.mk (hbox); have n2_ := Aside0.mk ((by rw [hg]; exact (below_size (by repeat (first | (with_reducible first | exact HB.out | apply below_alloc | apply pw_below_drewN | apply below_drew1) | exact HB.out))) : w.heap.size ≤ gb51001)); have n3_ := Aside0.mk ((by rw [hg]; exact (below_size (by repeat (first | (with_reducible first | exact HB.out | apply below_alloc | apply pw_below_drewN | apply below_drew1) | exact HB.out))) : w.heap.size ≤ gb51001)); clear HB; have HB := n0_; have BK51001 := n1_; have GW51001 := n2_; have GE51001 := n3_; clear n0_ n1_ n2_ n3_; clear hb hbox hg) | ((with_reducible refine gate_dst (N := 3) rfl ?_); refine box_event ?hg (N := 3) ?hd (cs := #[.int .i64 a1_0, .slice A1_1 l1_1.length c1_1, .slice A1_2 l1_2.length c1_2]) (t := 66) ?hr ?_; (case hd => rfl); (case hg => rfl); (case hr => first | (go_simp; done) | (go_simp; rfl)); intro gb51002 hg w16 hbox hb; have n0_ := Aside0.mk (blk_below (g := gb51001) (o := .cells #[.slice A0_0 l0_0.length c0_0, .slice A0_1 l0_1.length c0_1, .int .i64 a0_2] 35 (0, 0)) (by (with_reducible repeat (first | refine blk_drewN ?_ _ | refine blk_drew ?_ | refine blk_alloc ?_ _)); exact BK51001.out) hb); have n1_ := Aside0.mk (below_step (by repeat (first | (with_reducible first | exact HB.out | apply below_alloc | apply pw_below_drewN | apply below_drew1 | refine below_set ?_ GE51001.out) | exact HB.out)) hb); have n2_ := Aside0.mk (hbox); have n3_ := Aside0.mk ((by rw [hg]; exact (below_size (by repeat (first | (with_reducible first | exact HB.out | apply below_alloc | apply pw_below_drewN | apply below_drew1 | refine below_set ?_ GE51001.out) | exact HB.out))) : w.heap.size ≤ gb51002)); have n4_ := Aside0.mk ((by rw [hg]; exact (below_size (by repeat (first | (with_reducible first | exact HB.out | apply below_alloc | apply pw_below_drewN | apply below_drew1 | refine below_set ?_ GE51001.out) | exact HB.out))) : w.heap.size ≤ gb51002)); have n5_ := Aside0.mk ((by rw [hg]; exact Nat.ne_of_lt (blk_lt (g := gb51001) (o := .cells #[.slice A0_0 l0_0.length c0_0, .slice A0_1 l0_1.length c0_1, .int .i64 a0_2] 35 (0, 0)) (by (with_reducible repeat (first | refine blk_drewN ?_ _ | refine blk_drew ?_ | refine blk_alloc ?_ _)); exact BK51001.out)) : gb51001 ≠ gb51002)); have n6_ := Aside0.mk ((by rw [hg]; exact Nat.ne_of_gt (blk_lt (g := gb51001) (o := .cells #[.slice A0_0 l0_0.length c0_0, .slice A0_1 l0_1.length c0_1, .int .i64 a0_2] 35 (0, 0)) (by (with_reducible repeat (first | refine blk_drewN ?_ _ | refine blk_drew ?_ | refine blk_alloc ?_ _)); exact BK51001.out)) : gb51002 ≠ gb51001)); clear BK51001; clear HB; have BK51001 := n0_; have HB := n1_; have BK51002 := n2_; have GW51002 := n3_; have GE51002 := n4_; have NB51001_51002 := n5_; have NB51002_51001 := n6_; clear n0_ n1_ n2_ n3_ n4_ n5_ n6_; clear hb hbox hg; have hnb17 := NB51001_51002.out; have hnc17 := NB51002_51001.out; have hcz18_0 : w16.cell? ⟨gb51001, 0, none⟩ = some (.slice A0_0 l0_0.length c0_0) := (blk_cell BK51001.out 0).trans rfl; have hcz18_1 : w16.cell? ⟨gb51001, 1, none⟩ = some (.slice A0_1 l0_1.length c0_1) := (blk_cell BK51001.out 1).trans rfl; have hcz18_2 : w16.cell? ⟨gb51001, 2, none⟩ = some (.int .i64 a0_2) := (blk_cell BK51001.out 2).trans rfl; have hfz18_0 := blk_frozen BK51001.out 0; have hfz18_1 := blk_frozen BK51001.out 1; have hfz18_2 := blk_frozen BK51001.out 2; have hcz19_0 : w16.cell? ⟨gb51002, 0, none⟩ = some (.int .i64 a1_0) := (blk_cell BK51002.out 0).trans rfl; have hcz19_1 : w16.cell? ⟨gb51002, 1, none⟩ = some (.slice A1_1 l1_1.length c1_1) := (blk_cell BK51002.out 1).trans rfl; have hcz19_2 : w16.cell? ⟨gb51002, 2, none⟩ = some (.slice A1_2 l1_2.length c1_2) := (blk_cell BK51002.out 2).trans rfl; have hfz19_0 := blk_frozen BK51002.out 0; have hfz19_1 := blk_frozen BK51002.out 1; have hfz19_2 := blk_frozen BK51002.out 2) | ((with_reducible refine gate_callee (f := 95) rfl ?_); refine goesL_ (some 7) rfl rfl Try.func95 (by kernel_rfl) rfl #[.agg #[.slice A0_0 l0_0.length c0_0, .slice A0_1 l0_1.length c0_1, .int .i64 a0_2], .agg #[.int .i64 a1_0, .slice A1_1 l1_1.length c1_1, .slice A1_2 l1_2.length c1_2]] rfl (by (try simp only [List.map_toArray, List.map_cons, List.map_nil]); first | done | rfl | (simp only [List.length_drop, List.length_take]; rfl)) ?_; (with_reducible refine (spec_StateOk.calls k _ _ l0_0 _ _ l0_1 a0_2 a1_0 _ _ l1_1 _ _ l1_2 false _ ?side1 ?side2 ?side3 ?side4 ?side5 ?side6 ?side7 ?side8 A3.out).mono ?_); (case side1 => repeat (first | exact (Kd.C_below HR0_0.out HB.out) | (with_reducible refine Kd.C_alloc ?_ _) | (with_reducible refine Kd.C_drewN ?_ _) | (with_reducible refine Kd.C_drew ?_))); (case side2 => exact HC0_0.out); (case side3 => repeat (first | exact (Kd.C_below HR0_1.out HB.out) | (with_reducible refine Kd.C_alloc ?_ _) | (with_reducible refine Kd.C_drewN ?_ _) | (with_reducible refine Kd.C_drew ?_))); (case side4 => exact HC0_1.out); (case side5 => repeat (first | exact (Kd.C_below HR1_1.out HB.out) | (with_reducible refine Kd.C_alloc ?_ _) | (with_reducible refine Kd.C_drewN ?_ _) | (with_reducible refine Kd.C_drew ?_))); (case side6 => exact HC1_1.out); (case side7 => repeat (first | exact (Kd.C_below HR1_2.out HB.out) | (with_reducible refine Kd.C_alloc ?_ _) | (with_reducible refine Kd.C_drewN ?_ _) | (with_reducible refine Kd.C_drew ?_))); (case side8 => exact HC1_2.out); rintro e w20 ⟨rfl, hb⟩; refine ⟨_, rfl, ?_⟩; have n0_ := Aside0.mk (blk_below (g := gb51001) (o := .cells #[.slice A0_0 l0_0.length c0_0, .slice A0_1 l0_1.length c0_1, .int .i64 a0_2] 35 (0, 0)) (by (with_reducible repeat (first | refine blk_drewN ?_ _ | refine blk_drew ?_ | refine blk_alloc ?_ _)); exact BK51001.out) hb); have n1_ := Aside0.mk (blk_below (g := gb51002) (o := .cells #[.int .i64 a1_0, .slice A1_1 l1_1.length c1_1, .slice A1_2 l1_2.length c1_2] 66 (0, 0)) (by (with_reducible repeat (first | refine blk_drewN ?_ _ | refine blk_drew ?_ | refine blk_alloc ?_ _)); exact BK51002.out) hb); have n2_ := Aside0.mk (below_step (by repeat (first | (with_reducible first | exact HB.out | apply below_alloc | apply pw_below_drewN | apply below_drew1 | refine below_set ?_ GE51001.out | refine below_set ?_ GE51002.out) | exact HB.out)) hb); clear BK51001; clear BK51002; clear HB; have BK51001 := n0_; have BK51002 := n1_; have HB := n2_; clear n0_ n1_ n2_; (try clear hi)))
  go_ret
  exact ⟨_, by first | rfl | (simp [errW_none, errW_some] <;> rfl) | (simp [*, errW_none, errW_some] <;> rfl), by first | exact Kd.R_nil _ _ _ _ _ | exact Kd.N_nil _ _ _ _ _ | exact Kd.V_nil _ _ _ _ _ | exact Kd.Q_nil _ _ _ _ _ | exact Kd.S_nil _ _ _ _ _, by repeat (first | (with_reducible first | exact HB.out | apply below_alloc | apply pw_below_drewN | apply below_drew1 | refine below_set ?_ GE51001.out | refine below_set ?_ GE51002.out) | exact HB.out)⟩

end Go.Proofs.Ytodfnelilhjoeaa.Pr

namespace Go.Proofs.Ytodfnelilhjoeaa.Pr
open Go.RowKit Go.Proofs.YtodfnelilhjoeaaW.PrintWords Go.Proofs.YtodfnelilhjoeaaW.PrintLast Go.Proofs.YtodfnelilhjoeaaW.PrintMore
attribute [local go_sem] max2_int min2_int max_two min_two max_three min_three max_four min_four
set_option linter.unusedVariables false
set_option linter.unusedSimpArgs false

theorem spec_ActiveTies.c (k : Nat) (A0_0 : Option Addr) (c0_0 : Nat) (l0_0 : List (S116)) (A0_1 : Option Addr) (c0_1 : Nat) (l0_1 : List (S90)) (a0_2 : Int) (a1_0 : Int) (A1_1 : Option Addr) (c1_1 : Nat) (l1_1 : List Int) (A1_2 : Option Addr) (c1_2 : Nat) (l1_2 : List Int) (r : List Int) (w : World) (hr0_0 : Kd.C k116 w A0_0 l0_0.length l0_0) (hc0_0 : l0_0.length ≤ c0_0) (hr0_1 : Kd.C k90 w A0_1 l0_1.length l0_1) (hc0_1 : l0_1.length ≤ c0_1) (hr1_1 : Kd.C (Kd.int .i64) w A1_1 l1_1.length l1_1) (hc1_1 : l1_1.length ≤ c1_1) (hr1_2 : Kd.C (Kd.int .i64) w A1_2 l1_2.length l1_2) (hc1_2 : l1_2.length ≤ c1_2) (h : spec_ActiveTies.f k l0_0 l0_1 a0_2 a1_0 l1_1 l1_2 = some r) :
  Calls Try.prog 51 #[.agg #[.slice A0_0 l0_0.length c0_0, .slice A0_1 l0_1.length c0_1, .int .i64 a0_2], .agg #[.int .i64 a1_0, .slice A1_1 l1_1.length c1_1, .slice A1_2 l1_2.length c1_2]] w fun e w' => ∃ A0_ c0_, e = .returned (.slice A0_ r.length c0_) ∧ Aside0 (r.length ≤ c0_ ∧ Kd.C (Kd.int .i64) w' A0_ r.length r) ∧ Below w.heap.size w w' :=
 (spec_ActiveTies.calls k A0_0 c0_0 l0_0 A0_1 c0_1 l0_1 a0_2 a1_0 A1_1 c1_1 l1_1 A1_2 c1_2 l1_2 r w hr0_0 hc0_0 hr0_1 hc0_1 hr1_1 hc1_1 hr1_2 hc1_2 h).mono fun e w' ⟨v0_, he, q0_, hb⟩ => by
  obtain ⟨A0_, c0_, rfl, g0_⟩ := Kd.R_reads q0_
  exact ⟨A0_, c0_, he, ⟨g0_⟩, hb⟩

end Go.Proofs.Ytodfnelilhjoeaa.Pr

