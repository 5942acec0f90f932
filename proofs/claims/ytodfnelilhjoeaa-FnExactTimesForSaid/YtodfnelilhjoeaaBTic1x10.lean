/- The texts of one claim, put together by a program of this session. -/
import Derived.Test.YtodfnelilhjoeaaBTic1x1
import Derived.Test.YtodfnelilhjoeaaBTic1x2
import Derived.Test.YtodfnelilhjoeaaBTic1x3
import Derived.Test.YtodfnelilhjoeaaBTic1x7
import Derived.Test.YtodfnelilhjoeaaBTic1x8
import Derived.Test.YtodfnelilhjoeaaBTic1x9
namespace Go.Proofs.Ytodfnelilhjoeaa.Pr
open Go.RowKit Go.Proofs.YtodfnelilhjoeaaW.PrintWords Go.Proofs.YtodfnelilhjoeaaW.PrintLast Go.Proofs.YtodfnelilhjoeaaW.PrintMore
attribute [local go_sem] max2_int min2_int max_two min_two max_three min_three max_four min_four
set_option linter.unusedVariables false
set_option linter.unusedSimpArgs false
mutual
def spec_ShowOk.j0 : Nat → Bool → List (S116) → List (S90) → Int → Option (Bool)
 | 0, _, _, _, _ => none
 | k + 1, x18, x66002000, x66002001, x66002002 => if x18 = true then (some false) else (spec_ShowOk.l0 k (x66002001.length : Int) 0 x66002000 x66002001 x66002002)
def spec_ShowOk.l0 : Nat → Int → Int → List (S116) → List (S90) → Int → Option (Bool)
 | 0, _, _, _, _, _ => none
 | k + 1, x21, x22, x66002000, x66002001, x66002002 => if x22 < x21 then ((spec_l08Tie.f x66002000 x66002001 x66002002 x22).bind fun t66004 => (if t66004 = true then (spec_ShowOk.l0 k x21 (wrap64 (x22 + 1)) x66002000 x66002001 x66002002) else (some false))) else (some true)
end
def spec_ShowOk.f (k : Nat) (l0_0 : List (S116)) (l0_1 : List (S90)) (a0_2 : Int) : Option (Bool) := (spec_l08Nodes.f l0_0 l0_1 a0_2).bind fun t66002 => (if t66002 = true then (if (l0_1.length : Int) > 14 then (spec_ShowOk.j0 k true l0_0 l0_1 a0_2) else ((spec_l01In.f a0_2 1 10).bind fun t66003 => (spec_ShowOk.j0 k (!t66003) l0_0 l0_1 a0_2))) else (spec_ShowOk.j0 k true l0_0 l0_1 a0_2))
set_option maxHeartbeats 8000000 in
set_option maxRecDepth 100000 in
theorem spec_ShowOk.calls (k : Nat) (A0_0 : Option Addr) (c0_0 : Nat) (l0_0 : List (S116)) (A0_1 : Option Addr) (c0_1 : Nat) (l0_1 : List (S90)) (a0_2 : Int) (r : Bool) (w : World) (hr0_0 : Kd.C k116 w A0_0 l0_0.length l0_0) (hc0_0 : l0_0.length ≤ c0_0) (hr0_1 : Kd.C k90 w A0_1 l0_1.length l0_1) (hc0_1 : l0_1.length ≤ c0_1) (h : spec_ShowOk.f k l0_0 l0_1 a0_2 = some r) :
  Calls Try.prog 66 #[.agg #[.slice A0_0 l0_0.length c0_0, .slice A0_1 l0_1.length c0_1, .int .i64 a0_2]] w fun e w' => e = .returned (.bool r) ∧ Below w.heap.size w w' := by
 have hu35 := Try.underlying35
 have HR0_0 := Aside0.mk hr0_0; have HC0_0 := Aside0.mk hc0_0; clear hr0_0 hc0_0; have HR0_1 := Aside0.mk hr0_1; have HC0_1 := Aside0.mk hc0_1; clear hr0_1 hc0_1
 have HB := Aside0.mk (Below.refl w.heap.size w)
 have H : ((spec_l08Nodes.f l0_0 l0_1 a0_2).bind fun t66002 => (if t66002 = true then (if (l0_1.length : Int) > 14 then (spec_ShowOk.j0 k true l0_0 l0_1 a0_2) else ((spec_l01In.f a0_2 1 10).bind fun t66003 => (spec_ShowOk.j0 k (!t66003) l0_0 l0_1 a0_2))) else (spec_ShowOk.j0 k true l0_0 l0_1 a0_2))) = some r := h
 clear h; have HC2 := Aside0.mk H; clear H
 go_enter Try.func66, Try.ntmps66
 go_upto_region 1 with (first | ((with_reducible refine gate_dst (N := 1) rfl ?_); (try (refine gate_guard (by rfl) ?_; dsimp only)); refine box_event ?hg (N := 1) ?hd (cs := #[.slice A0_0 l0_0.length c0_0, .slice A0_1 l0_1.length c0_1, .int .i64 a0_2]) (t := 35) ?hr ?_; (case hd => rfl); (case hg => rfl); (case hr => first | (go_simp; done) | (go_simp; rfl)); intro gb66001 hg w3 hbox hb; have n0_ := Aside0.mk (below_step (by exact HB.out) hb); have n1_ := Aside0.mk (hbox); have n2_ := Aside0.mk ((by rw [hg]; exact (below_size (by exact HB.out)) : w.heap.size ≤ gb66001)); have n3_ := n2_; clear HB; have HB := n0_; have BK66001 := n1_; have GW66001 := n2_; have GE66001 := n3_; clear n0_ n1_ n2_ n3_; clear hb hbox hg))
 (try simp only [Act.put, List.setIfInBounds_toArray, List.set_cons_zero, List.set_cons_succ])
 go_cut [18] (fun v18 wc => ∃ (kq : Nat) (x18_1 : Bool), v18 = .bool x18_1 ∧ Aside0 (spec_ShowOk.j0 kq x18_1 l0_0 l0_1 a0_2 = some r) ∧ Aside0 (kq ≤ k) ∧ Aside0 (wc.heap[gb66001]? = some (.cells #[(.slice A0_0 l0_0.length c0_0), (.slice A0_1 l0_1.length c0_1), .int .i64 a0_2] 35 (0, 0))) ∧ Aside0 (Below w.heap.size w wc))
 case first =>
  have H := HC2.out
  clear HC2
  replace H := Option.bind_eq_some_iff.mp H
  obtain ⟨t66002, A40, H⟩ := H; have A4 := Aside0.mk A40; clear A40
  by_cases c5 : t66002 = true
  ·subst c5
   rw [if_pos rfl] at H
   by_cases c6 : (l0_1.length : Int) > 14
   ·rw [if_pos c6] at H
    have c6b0 : decide (14 < (l0_1.length : Int)) = true := decide_eq_true c6
    clear c6
    have H' := Aside0.mk H
    clear H
    have hcz7_0 : w3.cell? ⟨gb66001, 0, none⟩ = some (.slice A0_0 l0_0.length c0_0) := (blk_cell BK66001.out 0).trans rfl
    have hcz7_1 : w3.cell? ⟨gb66001, 1, none⟩ = some (.slice A0_1 l0_1.length c0_1) := (blk_cell BK66001.out 1).trans rfl
    have hcz7_2 : w3.cell? ⟨gb66001, 2, none⟩ = some (.int .i64 a0_2) := (blk_cell BK66001.out 2).trans rfl
    go_wp2_with (first | ((with_reducible refine gate_callee (f := 117) rfl ?_); refine goesL_ (some 5) rfl rfl Try.func117 (by kernel_rfl) rfl #[.agg #[.slice A0_0 l0_0.length c0_0, .slice A0_1 l0_1.length c0_1, .int .i64 a0_2]] rfl (by (try simp only [List.map_toArray, List.map_cons, List.map_nil]); first | done | rfl | (simp only [List.length_drop, List.length_take]; rfl)) ?_; (with_reducible refine (spec_l08Nodes.calls _ _ l0_0 _ _ l0_1 a0_2 true _ ?side1 ?side2 ?side3 ?side4 A4.out).mono ?_); (case side1 => exact (Kd.C_below HR0_0.out HB.out)); (case side2 => exact HC0_0.out); (case side3 => exact (Kd.C_below HR0_1.out HB.out)); (case side4 => exact HC0_1.out); rintro e w8 ⟨rfl, hb⟩; refine ⟨_, rfl, ?_⟩; have n0_ := Aside0.mk (blk_below BK66001.out hb); have n1_ := Aside0.mk (below_step (by exact HB.out) hb); clear BK66001; clear HB; have BK66001 := n0_; have HB := n1_; clear n0_ n1_; have hcz9_0 : w8.cell? ⟨gb66001, 0, none⟩ = some (.slice A0_0 l0_0.length c0_0) := (blk_cell BK66001.out 0).trans rfl; have hcz9_1 : w8.cell? ⟨gb66001, 1, none⟩ = some (.slice A0_1 l0_1.length c0_1) := (blk_cell BK66001.out 1).trans rfl; have hcz9_2 : w8.cell? ⟨gb66001, 2, none⟩ = some (.int .i64 a0_2) := (blk_cell BK66001.out 2).trans rfl))
    go_meet
    case rel => exact ⟨_, (true), (by first | rfl | (simp; done) | (simp [*]; done)), H', ⟨by first | omega | exact Nat.le_refl _⟩, ⟨by (with_reducible repeat (first | refine blk_drewN ?_ _ | refine blk_drew ?_ | refine blk_alloc ?_ _)); exact BK66001.out⟩, ⟨by repeat (first | (with_reducible first | exact HB.out | apply below_alloc | apply pw_below_drewN | apply below_drew1 | refine below_set ?_ GE66001.out) | exact HB.out)⟩⟩
   ·rw [if_neg c6] at H
    have c6b0 : decide (14 < (l0_1.length : Int)) = false := decide_eq_false c6
    clear c6
    replace H := Option.bind_eq_some_iff.mp H
    obtain ⟨t66003, A100, H⟩ := H; have A10 := Aside0.mk A100; clear A100
    have H' := Aside0.mk H
    clear H
    have hcz11_0 : w3.cell? ⟨gb66001, 0, none⟩ = some (.slice A0_0 l0_0.length c0_0) := (blk_cell BK66001.out 0).trans rfl
    have hcz11_1 : w3.cell? ⟨gb66001, 1, none⟩ = some (.slice A0_1 l0_1.length c0_1) := (blk_cell BK66001.out 1).trans rfl
    have hcz11_2 : w3.cell? ⟨gb66001, 2, none⟩ = some (.int .i64 a0_2) := (blk_cell BK66001.out 2).trans rfl
    go_wp2_with (first | ((with_reducible refine gate_callee (f := 117) rfl ?_); refine goesL_ (some 5) rfl rfl Try.func117 (by kernel_rfl) rfl #[.agg #[.slice A0_0 l0_0.length c0_0, .slice A0_1 l0_1.length c0_1, .int .i64 a0_2]] rfl (by (try simp only [List.map_toArray, List.map_cons, List.map_nil]); first | done | rfl | (simp only [List.length_drop, List.length_take]; rfl)) ?_; (with_reducible refine (spec_l08Nodes.calls _ _ l0_0 _ _ l0_1 a0_2 true _ ?side1 ?side2 ?side3 ?side4 A4.out).mono ?_); (case side1 => exact (Kd.C_below HR0_0.out HB.out)); (case side2 => exact HC0_0.out); (case side3 => exact (Kd.C_below HR0_1.out HB.out)); (case side4 => exact HC0_1.out); rintro e w12 ⟨rfl, hb⟩; refine ⟨_, rfl, ?_⟩; have n0_ := Aside0.mk (blk_below BK66001.out hb); have n1_ := Aside0.mk (below_step (by exact HB.out) hb); clear BK66001; clear HB; have BK66001 := n0_; have HB := n1_; clear n0_ n1_; have hcz13_0 : w12.cell? ⟨gb66001, 0, none⟩ = some (.slice A0_0 l0_0.length c0_0) := (blk_cell BK66001.out 0).trans rfl; have hcz13_1 : w12.cell? ⟨gb66001, 1, none⟩ = some (.slice A0_1 l0_1.length c0_1) := (blk_cell BK66001.out 1).trans rfl; have hcz13_2 : w12.cell? ⟨gb66001, 2, none⟩ = some (.int .i64 a0_2) := (blk_cell BK66001.out 2).trans rfl) | (go_at_call 68; (with_reducible refine (spec_l01In.calls a0_2 1 10 t66003 _ A10.out).mono ?_); rintro e w' ⟨rfl, ⟨nd, rfl⟩⟩))
    go_meet
    case rel => exact ⟨_, (!t66003), (by first | rfl | (simp; done) | (simp [*]; done)), H', ⟨by first | omega | exact Nat.le_refl _⟩, ⟨by (with_reducible repeat (first | refine blk_drewN ?_ _ | refine blk_drew ?_ | refine blk_alloc ?_ _)); exact BK66001.out⟩, ⟨by repeat (first | (with_reducible first | exact HB.out | apply below_alloc | apply pw_below_drewN | apply below_drew1 | refine below_set ?_ GE66001.out) | exact HB.out)⟩⟩
  ·replace c5 := Bool.eq_false_iff.mpr c5
   subst c5
   have H1 : (spec_ShowOk.j0 k true l0_0 l0_1 a0_2) = some r := by rw [if_neg (show ¬ (false = true) by decide)] at H; exact H
   clear H
   have H := H1
   clear H1
   have H' := Aside0.mk H
   clear H
   have hcz14_0 : w3.cell? ⟨gb66001, 0, none⟩ = some (.slice A0_0 l0_0.length c0_0) := (blk_cell BK66001.out 0).trans rfl
   have hcz14_1 : w3.cell? ⟨gb66001, 1, none⟩ = some (.slice A0_1 l0_1.length c0_1) := (blk_cell BK66001.out 1).trans rfl
   have hcz14_2 : w3.cell? ⟨gb66001, 2, none⟩ = some (.int .i64 a0_2) := (blk_cell BK66001.out 2).trans rfl
   go_wp2_with (first | ((with_reducible refine gate_callee (f := 117) rfl ?_); refine goesL_ (some 5) rfl rfl Try.func117 (by kernel_rfl) rfl #[.agg #[.slice A0_0 l0_0.length c0_0, .slice A0_1 l0_1.length c0_1, .int .i64 a0_2]] rfl (by (try simp only [List.map_toArray, List.map_cons, List.map_nil]); first | done | rfl | (simp only [List.length_drop, List.length_take]; rfl)) ?_; (with_reducible refine (spec_l08Nodes.calls _ _ l0_0 _ _ l0_1 a0_2 false _ ?side1 ?side2 ?side3 ?side4 A4.out).mono ?_); (case side1 => exact (Kd.C_below HR0_0.out HB.out)); (case side2 => exact HC0_0.out); (case side3 => exact (Kd.C_below HR0_1.out HB.out)); (case side4 => exact HC0_1.out); rintro e w15 ⟨rfl, hb⟩; refine ⟨_, rfl, ?_⟩; have n0_ := Aside0.mk (blk_below BK66001.out hb); have n1_ := Aside0.mk (below_step (by exact HB.out) hb); clear BK66001; clear HB; have BK66001 := n0_; have HB := n1_; clear n0_ n1_; (try clear hi)))
   go_meet
   case rel => exact ⟨_, (true), (by first | rfl | (simp; done) | (simp [*]; done)), H', ⟨by first | omega | exact Nat.le_refl _⟩, ⟨by (with_reducible repeat (first | refine blk_drewN ?_ _ | refine blk_drew ?_ | refine blk_alloc ?_ _)); exact BK66001.out⟩, ⟨by repeat (first | (with_reducible first | exact HB.out | apply below_alloc | apply pw_below_drewN | apply below_drew1 | refine below_set ?_ GE66001.out) | exact HB.out)⟩⟩
 case rest =>
  clear HC2
  try clear c1
  try clear p2
  try clear c5
  try clear c6
  try clear c6b0
  try clear c6b1
  try clear c11
  obtain ⟨kq, x18_1, rfl, HA, HJ1, BK66001, HB⟩ := hcut
  cases kq with
  | zero => exact absurd HA.out (by simp [spec_ShowOk.j0])
  | succ kj1 =>
   have H := HA.out
   clear HA
   simp only [spec_ShowOk.j0] at H
   by_cases c16 : x18_1 = true
   ·subst c16
    rw [if_pos rfl] at H
    obtain rfl := Option.some.inj H
    go_wp2
    go_ret
    exact ⟨by first | rfl | (simp [errW_none, errW_some] <;> rfl) | (simp [*, errW_none, errW_some] <;> rfl), by repeat (first | (with_reducible first | exact HB.out | apply below_alloc | apply pw_below_drewN | apply below_drew1 | refine below_set ?_ GE66001.out) | exact HB.out)⟩
   ·replace c16 := Bool.eq_false_iff.mpr c16
    subst c16
    have H1 : (spec_ShowOk.l0 kj1 (l0_1.length : Int) 0 l0_0 l0_1 a0_2) = some r := by rw [if_neg (show ¬ (false = true) by decide)] at H; exact H
    clear H
    have H := H1
    clear H1
    have H' := Aside0.mk H
    clear H
    have hcz17_0 : wc.cell? ⟨gb66001, 0, none⟩ = some (.slice A0_0 l0_0.length c0_0) := (blk_cell BK66001.out 0).trans rfl
    have hcz17_1 : wc.cell? ⟨gb66001, 1, none⟩ = some (.slice A0_1 l0_1.length c0_1) := (blk_cell BK66001.out 1).trans rfl
    have hcz17_2 : wc.cell? ⟨gb66001, 2, none⟩ = some (.int .i64 a0_2) := (blk_cell BK66001.out 2).trans rfl
    go_wp2
    go_loopg [22] kj1 (fun kq v22 w' => ∃ (x22_2 : Int), v22 = .int .i64 x22_2 ∧ Aside0 (spec_ShowOk.l0 kq (l0_1.length : Int) x22_2 l0_0 l0_1 a0_2 = some r) ∧ Aside0 (kq ≤ kj1) ∧ Aside0 (w'.heap[gb66001]? = some (.cells #[(.slice A0_0 l0_0.length c0_0), (.slice A0_1 l0_1.length c0_1), .int .i64 a0_2] 35 (0, 0))) ∧ Aside0 (Below w.heap.size w w'))
    case atStart => exact ⟨(0), (by first | rfl | (simp; done) | (simp [*]; done)), H', ⟨Nat.le_refl _⟩, ⟨by (with_reducible repeat (first | refine blk_drewN ?_ _ | refine blk_drew ?_ | refine blk_alloc ?_ _)); exact BK66001.out⟩, ⟨by repeat (first | (with_reducible first | exact HB.out | apply below_alloc | apply pw_below_drewN | apply below_drew1 | refine below_set ?_ GE66001.out) | exact HB.out)⟩⟩
    case round =>
     clear H'
     try clear c1
     try clear p2
     try clear c5
     try clear c6
     try clear c6b0
     try clear c6b1
     try clear c11
     try clear c16
     try clear p2
     obtain ⟨x22_2, rfl, HA, HK2, BK66001, HB⟩ := hrel
     cases gk with
     | zero => exact absurd HA.out (by simp [spec_ShowOk.l0])
     | succ k2 =>
      have H := HA.out
      clear HA
      simp only [spec_ShowOk.l0] at H
      by_cases c18 : x22_2 < (l0_1.length : Int)
      ·rw [if_pos c18] at H
       have c18b0 : decide (x22_2 < (l0_1.length : Int)) = true := decide_eq_true c18
       clear c18
       replace H := Option.bind_eq_some_iff.mp H
       obtain ⟨t66004, A190, H⟩ := H; have A19 := Aside0.mk A190; clear A190
       by_cases c20 : t66004 = true
       ·subst c20
        rw [if_pos rfl] at H
        have H' := Aside0.mk H
        clear H
        have hcz21_0 : wr.cell? ⟨gb66001, 0, none⟩ = some (.slice A0_0 l0_0.length c0_0) := (blk_cell BK66001.out 0).trans rfl
        have hcz21_1 : wr.cell? ⟨gb66001, 1, none⟩ = some (.slice A0_1 l0_1.length c0_1) := (blk_cell BK66001.out 1).trans rfl
        have hcz21_2 : wr.cell? ⟨gb66001, 2, none⟩ = some (.int .i64 a0_2) := (blk_cell BK66001.out 2).trans rfl
        go_wp2_with (first | ((with_reducible refine gate_callee (f := 118) rfl ?_); refine goesL_ (some 27) rfl rfl Try.func118 (by kernel_rfl) rfl #[.agg #[.slice A0_0 l0_0.length c0_0, .slice A0_1 l0_1.length c0_1, .int .i64 a0_2], .int .i64 x22_2] rfl (by (try simp only [List.map_toArray, List.map_cons, List.map_nil]); first | done | rfl | (simp only [List.length_drop, List.length_take]; rfl)) ?_; (with_reducible refine (spec_l08Tie.calls _ _ l0_0 _ _ l0_1 a0_2 x22_2 true _ ?side1 ?side2 ?side3 ?side4 A19.out).mono ?_); (case side1 => exact (Kd.C_below HR0_0.out HB.out)); (case side2 => exact HC0_0.out); (case side3 => exact (Kd.C_below HR0_1.out HB.out)); (case side4 => exact HC0_1.out); rintro e w22 ⟨rfl, hb⟩; refine ⟨_, rfl, ?_⟩; have n0_ := Aside0.mk (blk_below BK66001.out hb); have n1_ := Aside0.mk (below_step (by exact HB.out) hb); clear BK66001; clear HB; have BK66001 := n0_; have HB := n1_; clear n0_ n1_; (try clear hi)))
        go_roundg k2
        case measure => have := HJ1.out; have := HK2.out; omega
        case rel => exact ⟨(wrap64 (x22_2 + 1)), (by first | rfl | (simp; done) | (simp [*]; done)), H', ⟨by have := HJ1.out; have := HK2.out; omega⟩, ⟨by (with_reducible repeat (first | refine blk_drewN ?_ _ | refine blk_drew ?_ | refine blk_alloc ?_ _)); exact BK66001.out⟩, ⟨by repeat (first | (with_reducible first | exact HB.out | apply below_alloc | apply pw_below_drewN | apply below_drew1 | refine below_set ?_ GE66001.out) | exact HB.out)⟩⟩
       ·replace c20 := Bool.eq_false_iff.mpr c20
        subst c20
        have H1 : (some false) = some r := by rw [if_neg (show ¬ (false = true) by decide)] at H; exact H
        clear H
        have H := H1
        clear H1
        obtain rfl := Option.some.inj H
        have hcz23_0 : wr.cell? ⟨gb66001, 0, none⟩ = some (.slice A0_0 l0_0.length c0_0) := (blk_cell BK66001.out 0).trans rfl
        have hcz23_1 : wr.cell? ⟨gb66001, 1, none⟩ = some (.slice A0_1 l0_1.length c0_1) := (blk_cell BK66001.out 1).trans rfl
        have hcz23_2 : wr.cell? ⟨gb66001, 2, none⟩ = some (.int .i64 a0_2) := (blk_cell BK66001.out 2).trans rfl
        go_wp2_with (first | ((with_reducible refine gate_callee (f := 118) rfl ?_); refine goesL_ (some 27) rfl rfl Try.func118 (by kernel_rfl) rfl #[.agg #[.slice A0_0 l0_0.length c0_0, .slice A0_1 l0_1.length c0_1, .int .i64 a0_2], .int .i64 x22_2] rfl (by (try simp only [List.map_toArray, List.map_cons, List.map_nil]); first | done | rfl | (simp only [List.length_drop, List.length_take]; rfl)) ?_; (with_reducible refine (spec_l08Tie.calls _ _ l0_0 _ _ l0_1 a0_2 x22_2 false _ ?side1 ?side2 ?side3 ?side4 A19.out).mono ?_); (case side1 => exact (Kd.C_below HR0_0.out HB.out)); (case side2 => exact HC0_0.out); (case side3 => exact (Kd.C_below HR0_1.out HB.out)); (case side4 => exact HC0_1.out); rintro e w24 ⟨rfl, hb⟩; refine ⟨_, rfl, ?_⟩; have n0_ := Aside0.mk (blk_below BK66001.out hb); have n1_ := Aside0.mk (below_step (by exact HB.out) hb); clear BK66001; clear HB; have BK66001 := n0_; have HB := n1_; clear n0_ n1_; (try clear hi)))
        go_ret
        exact ⟨by first | rfl | (simp [errW_none, errW_some] <;> rfl) | (simp [*, errW_none, errW_some] <;> rfl), by repeat (first | (with_reducible first | exact HB.out | apply below_alloc | apply pw_below_drewN | apply below_drew1 | refine below_set ?_ GE66001.out) | exact HB.out)⟩
      ·rw [if_neg c18] at H
       have c18b0 : decide (x22_2 < (l0_1.length : Int)) = false := decide_eq_false c18
       clear c18
       obtain rfl := Option.some.inj H
       go_wp2
       go_ret
       exact ⟨by first | rfl | (simp [errW_none, errW_some] <;> rfl) | (simp [*, errW_none, errW_some] <;> rfl), by repeat (first | (with_reducible first | exact HB.out | apply below_alloc | apply pw_below_drewN | apply below_drew1 | refine below_set ?_ GE66001.out) | exact HB.out)⟩

mutual
def spec_ChoiceOk.j0 : Nat → List Int → Bool → List (S116) → List (S90) → Int → List Int → List Int → Option (Bool)
 | 0, _, _, _, _, _, _, _ => none
 | k + 1, x5, x26, x17002000, x17002001, x17002002, x17003000, x17003001 => if x26 = true then (some false) else (spec_ChoiceOk.l0 k x5 (x5.length : Int) 0 x17002000 x17002001 x17002002 x17003000 x17003001)
def spec_ChoiceOk.l0 : Nat → List Int → Int → Int → List (S116) → List (S90) → Int → List Int → List Int → Option (Bool)
 | 0, _, _, _, _, _, _, _, _ => none
 | k + 1, x27, x28, x29, x17002000, x17002001, x17002002, x17003000, x17003001 => if x29 < x28 then (if 0 ≤ x29 then (if x29 < (x27.length : Int) then (if x29 < (x17003000.length : Int) then (if 0 ≤ (rd x27 x29) then (if (rd x27 x29) < (x17002001.length : Int) then ((spec_l01In.f (rd x17003000 x29) ((rd_T90 x17002001 (rd x27 x29)).f2) ((rd_T90 x17002001 (rd x27 x29)).f3)).bind fun t17011 => (if t17011 = true then (spec_ChoiceOk.l0 k x27 x28 (wrap64 (x29 + 1)) x17002000 x17002001 x17002002 x17003000 x17003001) else (some false))) else (none)) else (none)) else (none)) else (none)) else (none)) else (spec_ChoiceOk.l1 k x17003001 (x17003001.length : Int) 0 x17002000 x17002001 x17002002)
def spec_ChoiceOk.l1 : Nat → List Int → Int → Int → List (S116) → List (S90) → Int → Option (Bool)
 | 0, _, _, _, _, _, _ => none
 | k + 1, x55, x56, x57, x17002000, x17002001, x17002002 => if x57 < x56 then (if 0 ≤ x57 then (if x57 < (x55.length : Int) then (if (rd x55 x57) = 1 then (if (rd x55 x57) = (-1) then ((spec_l08Watcher.f k x17002000 x17002001 x17002002 (wrap64 (x57 + 1))).bind fun t17013 => (if t17013 < 0 then (some false) else (spec_ChoiceOk.l1 k x55 x56 (wrap64 (x57 + 1)) x17002000 x17002001 x17002002))) else (spec_ChoiceOk.l1 k x55 x56 (wrap64 (x57 + 1)) x17002000 x17002001 x17002002)) else (if (rd x55 x57) = (-1) then ((spec_l08Watcher.f k x17002000 x17002001 x17002002 (wrap64 (x57 + 1))).bind fun t17014 => (if t17014 < 0 then (some false) else (spec_ChoiceOk.l1 k x55 x56 (wrap64 (x57 + 1)) x17002000 x17002001 x17002002))) else (some false))) else (none)) else (none)) else (some true)
end
def spec_ChoiceOk.f (k : Nat) (l0_0 : List (S116)) (l0_1 : List (S90)) (a0_2 : Int) (l1_0 : List Int) (l1_1 : List Int) : Option (Bool) := (spec_ShowOk.f k l0_0 l0_1 a0_2).bind fun t17003 => (if t17003 = true then ((spec_l10Free.f k l0_0 l0_1 a0_2).bind fun t17004 => (if (l1_0.length : Int) = (t17004.length : Int) then (spec_ChoiceOk.j0 k t17004 ((l1_1.length : Int) != 3) l0_0 l0_1 a0_2 l1_0 l1_1) else (spec_ChoiceOk.j0 k t17004 true l0_0 l0_1 a0_2 l1_0 l1_1))) else (some false))
set_option maxHeartbeats 8000000 in
set_option maxRecDepth 100000 in
theorem spec_ChoiceOk.calls (k : Nat) (A0_0 : Option Addr) (c0_0 : Nat) (l0_0 : List (S116)) (A0_1 : Option Addr) (c0_1 : Nat) (l0_1 : List (S90)) (a0_2 : Int) (A1_0 : Option Addr) (c1_0 : Nat) (l1_0 : List Int) (A1_1 : Option Addr) (c1_1 : Nat) (l1_1 : List Int) (r : Bool) (w : World) (hr0_0 : Kd.C k116 w A0_0 l0_0.length l0_0) (hc0_0 : l0_0.length ≤ c0_0) (hr0_1 : Kd.C k90 w A0_1 l0_1.length l0_1) (hc0_1 : l0_1.length ≤ c0_1) (hr1_0 : Kd.C (Kd.int .i64) w A1_0 l1_0.length l1_0) (hc1_0 : l1_0.length ≤ c1_0) (hr1_1 : Kd.C (Kd.int .i64) w A1_1 l1_1.length l1_1) (hc1_1 : l1_1.length ≤ c1_1) (h : spec_ChoiceOk.f k l0_0 l0_1 a0_2 l1_0 l1_1 = some r) :
  Calls Try.prog 17 #[.agg #[.slice A0_0 l0_0.length c0_0, .slice A0_1 l0_1.length c0_1, .int .i64 a0_2], .agg #[.slice A1_0 l1_0.length c1_0, .slice A1_1 l1_1.length c1_1]] w fun e w' => e = .returned (.bool r) ∧ Below w.heap.size w w' := by
 have hu35 := Try.underlying35
 have hu37 := Try.underlying37
 have HR0_0 := Aside0.mk hr0_0; have HC0_0 := Aside0.mk hc0_0; clear hr0_0 hc0_0; have HR0_1 := Aside0.mk hr0_1; have HC0_1 := Aside0.mk hc0_1; clear hr0_1 hc0_1; have HR1_0 := Aside0.mk hr1_0; have HC1_0 := Aside0.mk hc1_0; clear hr1_0 hc1_0; have HR1_1 := Aside0.mk hr1_1; have HC1_1 := Aside0.mk hc1_1; clear hr1_1 hc1_1
 have HB := Aside0.mk (Below.refl w.heap.size w)
 have H : ((spec_ShowOk.f k l0_0 l0_1 a0_2).bind fun t17003 => (if t17003 = true then ((spec_l10Free.f k l0_0 l0_1 a0_2).bind fun t17004 => (if (l1_0.length : Int) = (t17004.length : Int) then (spec_ChoiceOk.j0 k t17004 ((l1_1.length : Int) != 3) l0_0 l0_1 a0_2 l1_0 l1_1) else (spec_ChoiceOk.j0 k t17004 true l0_0 l0_1 a0_2 l1_0 l1_1))) else (some false))) = some r := h
 clear h
 replace H := Option.bind_eq_some_iff.mp H
 obtain ⟨t17003, A30, H⟩ := H
 replace H : (if t17003 = true then ((spec_l10Free.f k l0_0 l0_1 a0_2).bind fun t17004 => (if (l1_0.length : Int) = (t17004.length : Int) then (spec_ChoiceOk.j0 k t17004 ((l1_1.length : Int) != 3) l0_0 l0_1 a0_2 l1_0 l1_1) else (spec_ChoiceOk.j0 k t17004 true l0_0 l0_1 a0_2 l1_0 l1_1))) else (some false)) = some r := H
 have A3 := Aside0.mk A30; clear A30
 by_cases c4 : t17003 = true
 ·subst c4
  have H1 : ((spec_l10Free.f k l0_0 l0_1 a0_2).bind fun t17004 => (if (l1_0.length : Int) = (t17004.length : Int) then (spec_ChoiceOk.j0 k t17004 ((l1_1.length : Int) != 3) l0_0 l0_1 a0_2 l1_0 l1_1) else (spec_ChoiceOk.j0 k t17004 true l0_0 l0_1 a0_2 l1_0 l1_1))) = some r := by rw [if_pos rfl] at H; exact H
  clear H
  have H := H1
  clear H1
  replace H := Option.bind_eq_some_iff.mp H
  obtain ⟨t17004, A50, H⟩ := H
  replace H : (if (l1_0.length : Int) = (t17004.length : Int) then (spec_ChoiceOk.j0 k t17004 ((l1_1.length : Int) != 3) l0_0 l0_1 a0_2 l1_0 l1_1) else (spec_ChoiceOk.j0 k t17004 true l0_0 l0_1 a0_2 l1_0 l1_1)) = some r := H
  have A5 := Aside0.mk A50; clear A50; have HC6 := Aside0.mk H; clear H
  go_enter Try.func17, Try.ntmps17
  go_upto_region 4 with (first | ((with_reducible refine gate_dst (N := 2) rfl ?_); (try (refine gate_guard (by rfl) ?_; dsimp only)); refine box_event ?hg (N := 2) ?hd (cs := #[.slice A0_0 l0_0.length c0_0, .slice A0_1 l0_1.length c0_1, .int .i64 a0_2]) (t := 35) ?hr ?_; (case hd => rfl); (case hg => rfl); (case hr => first | (go_simp; done) | (go_simp; rfl)); intro gb17001 hg w7 hbox hb; have n0_ := Aside0.mk (below_step (by exact HB.out) hb); have n1_ := Aside0.mk (hbox); have n2_ := Aside0.mk ((by rw [hg]; exact (below_size (by exact HB.out)) : w.heap.size ≤ gb17001)); have n3_ := n2_; clear HB; have HB := n0_; have BK17001 := n1_; have GW17001 := n2_; have GE17001 := n3_; clear n0_ n1_ n2_ n3_; clear hb hbox hg) | ((with_reducible refine gate_dst (N := 3) rfl ?_); (try (refine gate_guard (by rfl) ?_; dsimp only)); refine box_event ?hg (N := 3) ?hd (cs := #[.slice A1_0 l1_0.length c1_0, .slice A1_1 l1_1.length c1_1]) (t := 37) ?hr ?_; (case hd => rfl); (case hg => rfl); (case hr => first | (go_simp; done) | (go_simp; rfl)); intro gb17002 hg w8 hbox hb; have n0_ := Aside0.mk (blk_below (g := gb17001) (o := .cells #[.slice A0_0 l0_0.length c0_0, .slice A0_1 l0_1.length c0_1, .int .i64 a0_2] 35 (0, 0)) BK17001.out hb); have n1_ := Aside0.mk (below_step (by exact HB.out) hb); have n2_ := Aside0.mk (hbox); have n3_ := Aside0.mk ((by rw [hg]; exact (below_size (by exact HB.out)) : w.heap.size ≤ gb17002)); have n4_ := n3_; have n5_ := Aside0.mk ((by rw [hg]; exact Nat.ne_of_lt (blk_lt (g := gb17001) (o := .cells #[.slice A0_0 l0_0.length c0_0, .slice A0_1 l0_1.length c0_1, .int .i64 a0_2] 35 (0, 0)) BK17001.out) : gb17001 ≠ gb17002)); have n6_ := Aside0.mk n5_.out.symm; clear BK17001; clear HB; have BK17001 := n0_; have HB := n1_; have BK17002 := n2_; have GW17002 := n3_; have GE17002 := n4_; have NB17001_17002 := n5_; have NB17002_17001 := n6_; clear n0_ n1_ n2_ n3_ n4_ n5_ n6_; clear hb hbox hg; have hnb9 := NB17001_17002.out; have hnc9 := NB17002_17001.out; have hcz10_0 : w8.cell? ⟨gb17001, 0, none⟩ = some (.slice A0_0 l0_0.length c0_0) := (blk_cell BK17001.out 0).trans rfl; have hcz10_1 : w8.cell? ⟨gb17001, 1, none⟩ = some (.slice A0_1 l0_1.length c0_1) := (blk_cell BK17001.out 1).trans rfl; have hcz10_2 : w8.cell? ⟨gb17001, 2, none⟩ = some (.int .i64 a0_2) := (blk_cell BK17001.out 2).trans rfl) | (go_at_call 66; (with_reducible refine (spec_ShowOk.calls k _ _ l0_0 _ _ l0_1 a0_2 true _ ?side1 ?side2 ?side3 ?side4 A3.out).mono ?_); (case side1 => exact (Kd.C_below HR0_0.out HB.out)); (case side2 => exact HC0_0.out); (case side3 => exact (Kd.C_below HR0_1.out HB.out)); (case side4 => exact HC0_1.out); rintro e w11 ⟨rfl, hb⟩; have n0_ := Aside0.mk (blk_below (g := gb17001) (o := .cells #[.slice A0_0 l0_0.length c0_0, .slice A0_1 l0_1.length c0_1, .int .i64 a0_2] 35 (0, 0)) BK17001.out hb); have n1_ := Aside0.mk (blk_below (g := gb17002) (o := .cells #[.slice A1_0 l1_0.length c1_0, .slice A1_1 l1_1.length c1_1] 37 (0, 0)) BK17002.out hb); have n2_ := Aside0.mk (below_step (by exact HB.out) hb); clear BK17001; clear BK17002; clear HB; have BK17001 := n0_; have BK17002 := n1_; have HB := n2_; clear n0_ n1_ n2_; have hcz12_0 : w11.cell? ⟨gb17001, 0, none⟩ = some (.slice A0_0 l0_0.length c0_0) := (blk_cell BK17001.out 0).trans rfl; have hcz12_1 : w11.cell? ⟨gb17001, 1, none⟩ = some (.slice A0_1 l0_1.length c0_1) := (blk_cell BK17001.out 1).trans rfl; have hcz12_2 : w11.cell? ⟨gb17001, 2, none⟩ = some (.int .i64 a0_2) := (blk_cell BK17001.out 2).trans rfl) | (go_at_call 67; (with_reducible refine (spec_l10Free.calls k _ _ l0_0 _ _ l0_1 a0_2 t17004 _ ?side1 ?side2 ?side3 ?side4 A5.out).mono ?_); (case side1 => exact (Kd.C_below HR0_0.out HB.out)); (case side2 => exact HC0_0.out); (case side3 => exact (Kd.C_below HR0_1.out HB.out)); (case side4 => exact HC0_1.out); rintro e w13 ⟨v17005, rfl, ho0, hb⟩; have n0_ := Aside0.mk (Kd.R_lower ho0 (below_size (by exact HB.out))); have n1_ := Aside0.mk (blk_below (g := gb17001) (o := .cells #[.slice A0_0 l0_0.length c0_0, .slice A0_1 l0_1.length c0_1, .int .i64 a0_2] 35 (0, 0)) BK17001.out hb); have n2_ := Aside0.mk (blk_below (g := gb17002) (o := .cells #[.slice A1_0 l1_0.length c1_0, .slice A1_1 l1_1.length c1_1] 37 (0, 0)) BK17002.out hb); have n3_ := Aside0.mk (below_step (by exact HB.out) hb); clear BK17001; clear BK17002; clear HB; have HO17006 := n0_; have BK17001 := n1_; have BK17002 := n2_; have HB := n3_; clear n0_ n1_ n2_ n3_; (try clear ho0)))
  repeat (go_quiet (first | ((with_reducible refine gate_dst (N := 2) rfl ?_); (try (refine gate_guard (by rfl) ?_; dsimp only)); refine box_event ?hg (N := 2) ?hd (cs := #[.slice A0_0 l0_0.length c0_0, .slice A0_1 l0_1.length c0_1, .int .i64 a0_2]) (t := 35) ?hr ?_; (case hd => rfl); (case hg => rfl); (case hr => first | (go_simp; done) | (go_simp; rfl)); intro gb17001 hg w7 hbox hb; have n0_ := Aside0.mk (below_step (by exact HB.out) hb); have n1_ := Aside0.mk (hbox); have n2_ := Aside0.mk ((by rw [hg]; exact (below_size (by exact HB.out)) : w.heap.size ≤ gb17001)); have n3_ := n2_; clear HB; have HB := n0_; have BK17001 := n1_; have GW17001 := n2_; have GE17001 := n3_; clear n0_ n1_ n2_ n3_; clear hb hbox hg) | ((with_reducible refine gate_dst (N := 3) rfl ?_); (try (refine gate_guard (by rfl) ?_; dsimp only)); refine box_event ?hg (N := 3) ?hd (cs := #[.slice A1_0 l1_0.length c1_0, .slice A1_1 l1_1.length c1_1]) (t := 37) ?hr ?_; (case hd => rfl); (case hg => rfl); (case hr => first | (go_simp; done) | (go_simp; rfl)); intro gb17002 hg w8 hbox hb; have n0_ := Aside0.mk (blk_below (g := gb17001) (o := .cells #[.slice A0_0 l0_0.length c0_0, .slice A0_1 l0_1.length c0_1, .int .i64 a0_2] 35 (0, 0)) BK17001.out hb); have n1_ := Aside0.mk (below_step (by exact HB.out) hb); have n2_ := Aside0.mk (hbox); have n3_ := Aside0.mk ((by rw [hg]; exact (below_size (by exact HB.out)) : w.heap.size ≤ gb17002)); have n4_ := n3_; have n5_ := Aside0.mk ((by rw [hg]; exact Nat.ne_of_lt (blk_lt (g := gb17001) (o := .cells #[.slice A0_0 l0_0.length c0_0, .slice A0_1 l0_1.length c0_1, .int .i64 a0_2] 35 (0, 0)) BK17001.out) : gb17001 ≠ gb17002)); have n6_ := Aside0.mk n5_.out.symm; clear BK17001; clear HB; have BK17001 := n0_; have HB := n1_; have BK17002 := n2_; have GW17002 := n3_; have GE17002 := n4_; have NB17001_17002 := n5_; have NB17002_17001 := n6_; clear n0_ n1_ n2_ n3_ n4_ n5_ n6_; clear hb hbox hg; have hnb9 := NB17001_17002.out; have hnc9 := NB17002_17001.out; have hcz10_0 : w8.cell? ⟨gb17001, 0, none⟩ = some (.slice A0_0 l0_0.length c0_0) := (blk_cell BK17001.out 0).trans rfl; have hcz10_1 : w8.cell? ⟨gb17001, 1, none⟩ = some (.slice A0_1 l0_1.length c0_1) := (blk_cell BK17001.out 1).trans rfl; have hcz10_2 : w8.cell? ⟨gb17001, 2, none⟩ = some (.int .i64 a0_2) := (blk_cell BK17001.out 2).trans rfl) | (go_at_call 66; (with_reducible refine (spec_ShowOk.calls k _ _ l0_0 _ _ l0_1 a0_2 true _ ?side1 ?side2 ?side3 ?side4 A3.out).mono ?_); (case side1 => exact (Kd.C_below HR0_0.out HB.out)); (case side2 => exact HC0_0.out); (case side3 => exact (Kd.C_below HR0_1.out HB.out)); (case side4 => exact HC0_1.out); rintro e w11 ⟨rfl, hb⟩; have n0_ := Aside0.mk (blk_below (g := gb17001) (o := .cells #[.slice A0_0 l0_0.length c0_0, .slice A0_1 l0_1.length c0_1, .int .i64 a0_2] 35 (0, 0)) BK17001.out hb); have n1_ := Aside0.mk (blk_below (g := gb17002) (o := .cells #[.slice A1_0 l1_0.length c1_0, .slice A1_1 l1_1.length c1_1] 37 (0, 0)) BK17002.out hb); have n2_ := Aside0.mk (below_step (by exact HB.out) hb); clear BK17001; clear BK17002; clear HB; have BK17001 := n0_; have BK17002 := n1_; have HB := n2_; clear n0_ n1_ n2_; have hcz12_0 : w11.cell? ⟨gb17001, 0, none⟩ = some (.slice A0_0 l0_0.length c0_0) := (blk_cell BK17001.out 0).trans rfl; have hcz12_1 : w11.cell? ⟨gb17001, 1, none⟩ = some (.slice A0_1 l0_1.length c0_1) := (blk_cell BK17001.out 1).trans rfl; have hcz12_2 : w11.cell? ⟨gb17001, 2, none⟩ = some (.int .i64 a0_2) := (blk_cell BK17001.out 2).trans rfl) | (go_at_call 67; (with_reducible refine (spec_l10Free.calls k _ _ l0_0 _ _ l0_1 a0_2 t17004 _ ?side1 ?side2 ?side3 ?side4 A5.out).mono ?_); (case side1 => exact (Kd.C_below HR0_0.out HB.out)); (case side2 => exact HC0_0.out); (case side3 => exact (Kd.C_below HR0_1.out HB.out)); (case side4 => exact HC0_1.out); rintro e w13 ⟨v17005, rfl, ho0, hb⟩; have n0_ := Aside0.mk (Kd.R_lower ho0 (below_size (by exact HB.out))); have n1_ := Aside0.mk (blk_below (g := gb17001) (o := .cells #[.slice A0_0 l0_0.length c0_0, .slice A0_1 l0_1.length c0_1, .int .i64 a0_2] 35 (0, 0)) BK17001.out hb); have n2_ := Aside0.mk (blk_below (g := gb17002) (o := .cells #[.slice A1_0 l1_0.length c1_0, .slice A1_1 l1_1.length c1_1] 37 (0, 0)) BK17002.out hb); have n3_ := Aside0.mk (below_step (by exact HB.out) hb); clear BK17001; clear BK17002; clear HB; have HO17006 := n0_; have BK17001 := n1_; have BK17002 := n2_; have HB := n3_; clear n0_ n1_ n2_ n3_; (try clear ho0))); go_upto_region 4 with (first | ((with_reducible refine gate_dst (N := 2) rfl ?_); (try (refine gate_guard (by rfl) ?_; dsimp only)); refine box_event ?hg (N := 2) ?hd (cs := #[.slice A0_0 l0_0.length c0_0, .slice A0_1 l0_1.length c0_1, .int .i64 a0_2]) (t := 35) ?hr ?_; (case hd => rfl); (case hg => rfl); (case hr => first | (go_simp; done) | (go_simp; rfl)); intro gb17001 hg w7 hbox hb; have n0_ := Aside0.mk (below_step (by exact HB.out) hb); have n1_ := Aside0.mk (hbox); have n2_ := Aside0.mk ((by rw [hg]; exact (below_size (by exact HB.out)) : w.heap.size ≤ gb17001)); have n3_ := n2_; clear HB; have HB := n0_; have BK17001 := n1_; have GW17001 := n2_; have GE17001 := n3_; clear n0_ n1_ n2_ n3_; clear hb hbox hg) | ((with_reducible refine gate_dst (N := 3) rfl ?_); (try (refine gate_guard (by rfl) ?_; dsimp only)); refine box_event ?hg (N := 3) ?hd (cs := #[.slice A1_0 l1_0.length c1_0, .slice A1_1 l1_1.length c1_1]) (t := 37) ?hr ?_; (case hd => rfl); (case hg => rfl); (case hr => first | (go_simp; done) | (go_simp; rfl)); intro gb17002 hg w8 hbox hb; have n0_ := Aside0.mk (blk_below (g := gb17001) (o := .cells #[.slice A0_0 l0_0.length c0_0, .slice A0_1 l0_1.length c0_1, .int .i64 a0_2] 35 (0, 0)) BK17001.out hb); have n1_ := Aside0.mk (below_step (by exact HB.out) hb); have n2_ := Aside0.mk (hbox); have n3_ := Aside0.mk ((by rw [hg]; exact (below_size (by exact HB.out)) : w.heap.size ≤ gb17002)); have n4_ := n3_; have n5_ := Aside0.mk ((by rw [hg]; exact Nat.ne_of_lt (blk_lt (g := gb17001) (o := .cells #[.slice A0_0 l0_0.length c0_0, .slice A0_1 l0_1.length c0_1, .int .i64 a0_2] 35 (0, 0)) BK17001.out) : gb17001 ≠ gb17002)); have n6_ := Aside0.mk n5_.out.symm; clear BK17001; clear HB; have BK17001 := n0_; have HB := n1_; have BK17002 := n2_; have GW17002 := n3_; have GE17002 := n4_; have NB17001_17002 := n5_; have NB17002_17001 := n6_; clear n0_ n1_ n2_ n3_ n4_ n5_ n6_; clear hb hbox hg; have hnb9 := NB17001_17002.out; have hnc9 := NB17002_17001.out; have hcz10_0 : w8.cell? ⟨gb17001, 0, none⟩ = some (.slice A0_0 l0_0.length c0_0) := (blk_cell BK17001.out 0).trans rfl; have hcz10_1 : w8.cell? ⟨gb17001, 1, none⟩ = some (.slice A0_1 l0_1.length c0_1) := (blk_cell BK17001.out 1).trans rfl; have hcz10_2 : w8.cell? ⟨gb17001, 2, none⟩ = some (.int .i64 a0_2) := (blk_cell BK17001.out 2).trans rfl) | (go_at_call 66; (with_reducible refine (spec_ShowOk.calls k _ _ l0_0 _ _ l0_1 a0_2 true _ ?side1 ?side2 ?side3 ?side4 A3.out).mono ?_); (case side1 => exact (Kd.C_below HR0_0.out HB.out)); (case side2 => exact HC0_0.out); (case side3 => exact (Kd.C_below HR0_1.out HB.out)); (case side4 => exact HC0_1.out); rintro e w11 ⟨rfl, hb⟩; have n0_ := Aside0.mk (blk_below (g := gb17001) (o := .cells #[.slice A0_0 l0_0.length c0_0, .slice A0_1 l0_1.length c0_1, .int .i64 a0_2] 35 (0, 0)) BK17001.out hb); have n1_ := Aside0.mk (blk_below (g := gb17002) (o := .cells #[.slice A1_0 l1_0.length c1_0, .slice A1_1 l1_1.length c1_1] 37 (0, 0)) BK17002.out hb); have n2_ := Aside0.mk (below_step (by exact HB.out) hb); clear BK17001; clear BK17002; clear HB; have BK17001 := n0_; have BK17002 := n1_; have HB := n2_; clear n0_ n1_ n2_; have hcz12_0 : w11.cell? ⟨gb17001, 0, none⟩ = some (.slice A0_0 l0_0.length c0_0) := (blk_cell BK17001.out 0).trans rfl; have hcz12_1 : w11.cell? ⟨gb17001, 1, none⟩ = some (.slice A0_1 l0_1.length c0_1) := (blk_cell BK17001.out 1).trans rfl; have hcz12_2 : w11.cell? ⟨gb17001, 2, none⟩ = some (.int .i64 a0_2) := (blk_cell BK17001.out 2).trans rfl) | (go_at_call 67; (with_reducible refine (spec_l10Free.calls k _ _ l0_0 _ _ l0_1 a0_2 t17004 _ ?side1 ?side2 ?side3 ?side4 A5.out).mono ?_); (case side1 => exact (Kd.C_below HR0_0.out HB.out)); (case side2 => exact HC0_0.out); (case side3 => exact (Kd.C_below HR0_1.out HB.out)); (case side4 => exact HC0_1.out); rintro e w13 ⟨v17005, rfl, ho0, hb⟩; have n0_ := Aside0.mk (Kd.R_lower ho0 (below_size (by exact HB.out))); have n1_ := Aside0.mk (blk_below (g := gb17001) (o := .cells #[.slice A0_0 l0_0.length c0_0, .slice A0_1 l0_1.length c0_1, .int .i64 a0_2] 35 (0, 0)) BK17001.out hb); have n2_ := Aside0.mk (blk_below (g := gb17002) (o := .cells #[.slice A1_0 l1_0.length c1_0, .slice A1_1 l1_1.length c1_1] 37 (0, 0)) BK17002.out hb); have n3_ := Aside0.mk (below_step (by exact HB.out) hb); clear BK17001; clear BK17002; clear HB; have HO17006 := n0_; have BK17001 := n1_; have BK17002 := n2_; have HB := n3_; clear n0_ n1_ n2_ n3_; (try clear ho0))))
  (try simp only [Act.put, List.setIfInBounds_toArray, List.set_cons_zero, List.set_cons_succ])
  go_cut [26] (fun v26 wc => ∃ (kq : Nat) (x26_5 : Bool), v26 = .bool x26_5 ∧ Aside0 (spec_ChoiceOk.j0 kq t17004 x26_5 l0_0 l0_1 a0_2 l1_0 l1_1 = some r) ∧ Aside0 (kq ≤ k) ∧ Aside0 (Kd.R (Kd.int .i64) 3 wc w.heap.size (fun _ => True) v17005 t17004) ∧ Aside0 (wc.heap[gb17001]? = some (.cells #[(.slice A0_0 l0_0.length c0_0), (.slice A0_1 l0_1.length c0_1), .int .i64 a0_2] 35 (0, 0))) ∧ Aside0 (wc.heap[gb17002]? = some (.cells #[(.slice A1_0 l1_0.length c1_0), (.slice A1_1 l1_1.length c1_1)] 37 (0, 0))) ∧ Aside0 (Below w.heap.size w wc))
  case first =>
   have H := HC6.out
   clear HC6
   by_cases c14 : (l1_0.length : Int) = (t17004.length : Int)
   ·rw [if_pos c14] at H
    have c14b0 : ((l1_0.length : Int) == (t17004.length : Int)) = true := beq_iff_eq.mpr c14
    have c14b1 : ((l1_0.length : Int) != (t17004.length : Int)) = false := bne_eq_false_iff_eq.mpr c14
    have c14b2 : (l1_0.length == t17004.length) = true := by first | simpa using c14 | (simp at c14 ⊢; omega)
    clear c14
    (first | rw [c14b0] | (simp only [i64_w, i32_w]; rw [c14b0]) | skip)
    have H' := Aside0.mk H
    clear H
    have hnb15 := NB17002_17001.out
    have hnc15 := NB17001_17002.out
    have hcz16_0 : w13.cell? ⟨gb17002, 0, none⟩ = some (.slice A1_0 l1_0.length c1_0) := (blk_cell BK17002.out 0).trans rfl
    have hcz16_1 : w13.cell? ⟨gb17002, 1, none⟩ = some (.slice A1_1 l1_1.length c1_1) := (blk_cell BK17002.out 1).trans rfl
    obtain ⟨Ao17, co17, eo17⟩ := Kd.R_slice HO17006.out
    subst eo17
    go_wp2
    repeat (go_quiet (fail); try go_wp2)
    go_meet
    case rel => exact ⟨_, (((l1_1.length : Int) != 3)), (by first | rfl | (simp; done) | (simp [*]; done)), H', ⟨by first | omega | exact Nat.le_refl _⟩, ⟨by (with_reducible repeat (first | apply Kd.R_alloc | apply Kd.R_drewN | apply Kd.R_drew)); exact HO17006.out⟩, ⟨by (with_reducible repeat (first | refine blk_drewN ?_ _ | refine blk_drew ?_ | refine blk_alloc ?_ _)); exact BK17001.out⟩, ⟨by (with_reducible repeat (first | refine blk_drewN ?_ _ | refine blk_drew ?_ | refine blk_alloc ?_ _)); exact BK17002.out⟩, ⟨by repeat (first | (with_reducible first | exact HB.out | apply below_alloc | apply pw_below_drewN | apply below_drew1 | refine below_set ?_ GE17001.out | refine below_set ?_ GE17002.out) | exact HB.out)⟩⟩
   ·rw [if_neg c14] at H
    have c14b0 : ((l1_0.length : Int) == (t17004.length : Int)) = false := beq_eq_false_iff_ne.mpr c14
    have c14b1 : ((l1_0.length : Int) != (t17004.length : Int)) = true := bne_iff_ne.mpr c14
    have c14b2 : (l1_0.length == t17004.length) = false := by first | simpa using c14 | (simp at c14 ⊢; omega)
    (first | rw [c14b0] | (simp only [i64_w, i32_w]; rw [c14b0]) | skip)
    have H' := Aside0.mk H
    clear H
    have hnb18 := NB17002_17001.out
    have hnc18 := NB17001_17002.out
    have hcz19_0 : w13.cell? ⟨gb17002, 0, none⟩ = some (.slice A1_0 l1_0.length c1_0) := (blk_cell BK17002.out 0).trans rfl
    have hcz19_1 : w13.cell? ⟨gb17002, 1, none⟩ = some (.slice A1_1 l1_1.length c1_1) := (blk_cell BK17002.out 1).trans rfl
    obtain ⟨Ao20, co20, eo20⟩ := Kd.R_slice HO17006.out
    subst eo20
    go_wp2
    repeat (go_quiet (fail); try go_wp2)
    go_meet
    case rel => exact ⟨_, (true), (by first | rfl | (simp; done) | (simp [*]; done)), H', ⟨by first | omega | exact Nat.le_refl _⟩, ⟨by (with_reducible repeat (first | apply Kd.R_alloc | apply Kd.R_drewN | apply Kd.R_drew)); exact HO17006.out⟩, ⟨by (with_reducible repeat (first | refine blk_drewN ?_ _ | refine blk_drew ?_ | refine blk_alloc ?_ _)); exact BK17001.out⟩, ⟨by (with_reducible repeat (first | refine blk_drewN ?_ _ | refine blk_drew ?_ | refine blk_alloc ?_ _)); exact BK17002.out⟩, ⟨by repeat (first | (with_reducible first | exact HB.out | apply below_alloc | apply pw_below_drewN | apply below_drew1 | refine below_set ?_ GE17001.out | refine below_set ?_ GE17002.out) | exact HB.out)⟩⟩
  case rest =>
   clear HC6
   try clear c1
   try clear p2
   try clear c4
   try clear c9
   try clear c14
   try clear c14b0
   try clear c14b1
   try clear c14b2
   try clear c15
   try clear c17
   try clear c18
   obtain ⟨kq, x26_5, rfl, HA, HJ5, HO_5, BK17001, BK17002, HB⟩ := hcut
   cases kq with
   | zero => exact absurd HA.out (by simp [spec_ChoiceOk.j0])
   | succ kj5 =>
    have H := HA.out
    clear HA
    simp only [spec_ChoiceOk.j0] at H
    by_cases c21 : x26_5 = true
    ·subst c21
     have H1 : (some false) = some r := by rw [if_pos rfl] at H; exact H
     clear H
     have H := H1
     clear H1
     obtain rfl := Option.some.inj H
     go_wp2
     repeat (go_quiet (fail); try go_wp2)
     go_ret
     exact ⟨by first | rfl | (simp [errW_none, errW_some] <;> rfl) | (simp [*, errW_none, errW_some] <;> rfl), by repeat (first | (with_reducible first | exact HB.out | apply below_alloc | apply pw_below_drewN | apply below_drew1 | refine below_set ?_ GE17001.out | refine below_set ?_ GE17002.out) | exact HB.out)⟩
    ·replace c21 := Bool.eq_false_iff.mpr c21
     subst c21
     have H1 : (spec_ChoiceOk.l0 kj5 t17004 (t17004.length : Int) 0 l0_0 l0_1 a0_2 l1_0 l1_1) = some r := by rw [if_neg (show ¬ (false = true) by decide)] at H; exact H
     clear H
     have H := H1
     clear H1
     have H' := Aside0.mk H
     clear H
     obtain ⟨Ao22, co22, eo22⟩ := Kd.R_slice HO_5.out
     subst eo22
     go_wp2
     repeat (go_quiet (fail); try go_wp2)
     go_loopg [29] kj5 (fun kq v29 w' => ∃ (x29_2 : Int), v29 = .int .i64 x29_2 ∧ Aside0 (spec_ChoiceOk.l0 kq t17004 (t17004.length : Int) x29_2 l0_0 l0_1 a0_2 l1_0 l1_1 = some r) ∧ Aside0 (kq ≤ kj5) ∧ Aside0 (Kd.R (Kd.int .i64) 3 w' w.heap.size (fun _ => True) (.slice Ao22 t17004.length co22) t17004) ∧ Aside0 (w'.heap[gb17001]? = some (.cells #[(.slice A0_0 l0_0.length c0_0), (.slice A0_1 l0_1.length c0_1), .int .i64 a0_2] 35 (0, 0))) ∧ Aside0 (w'.heap[gb17002]? = some (.cells #[(.slice A1_0 l1_0.length c1_0), (.slice A1_1 l1_1.length c1_1)] 37 (0, 0))) ∧ Aside0 (Below w.heap.size w w'))
     case atStart => exact ⟨(0), (by first | rfl | (simp; done) | (simp [*]; done)), H', ⟨Nat.le_refl _⟩, ⟨by (with_reducible repeat (first | apply Kd.R_alloc | apply Kd.R_drewN | apply Kd.R_drew)); exact HO_5.out⟩, ⟨by (with_reducible repeat (first | refine blk_drewN ?_ _ | refine blk_drew ?_ | refine blk_alloc ?_ _)); exact BK17001.out⟩, ⟨by (with_reducible repeat (first | refine blk_drewN ?_ _ | refine blk_drew ?_ | refine blk_alloc ?_ _)); exact BK17002.out⟩, ⟨by repeat (first | (with_reducible first | exact HB.out | apply below_alloc | apply pw_below_drewN | apply below_drew1 | refine below_set ?_ GE17001.out | refine below_set ?_ GE17002.out) | exact HB.out)⟩⟩
     case round =>
      clear H'
      try clear c1
      try clear c2
      try clear p2
      try clear c4
      try clear c9
      try clear c14
      try clear c14b0
      try clear c14b1
      try clear c14b2
      try clear c15
      try clear c17
      try clear c18
      try clear c21
      try clear p2
      obtain ⟨x29_2, rfl, HA, HK2, HO_27, BK17001, BK17002, HB⟩ := hrel
      cases gk with
      | zero => exact absurd HA.out (by simp [spec_ChoiceOk.l0])
      | succ k2 =>
       have H := HA.out
       clear HA
       simp only [spec_ChoiceOk.l0] at H
       by_cases c23 : x29_2 < (t17004.length : Int)
       ·rw [if_pos c23] at H
        have c23b0 : decide (x29_2 < (t17004.length : Int)) = true := decide_eq_true c23
        clear c23
        by_cases c24 : 0 ≤ x29_2
        ·rw [if_pos c24] at H
         have c24b0 : decide (0 ≤ x29_2) = true := decide_eq_true c24
         clear c24
         by_cases c25 : x29_2 < (t17004.length : Int)
         ·rw [if_pos c25] at H
          have c25b0 : decide (x29_2 < (t17004.length : Int)) = true := decide_eq_true c25
          clear c25
          by_cases c26 : x29_2 < (l1_0.length : Int)
          ·rw [if_pos c26] at H
           have c26b0 : decide (x29_2 < (l1_0.length : Int)) = true := decide_eq_true c26
           clear c26
           by_cases c27 : 0 ≤ (rd t17004 x29_2)
           ·rw [if_pos c27] at H
            have c27b0 : decide (0 ≤ (rd t17004 x29_2)) = true := decide_eq_true c27
            clear c27
            by_cases c28 : (rd t17004 x29_2) < (l0_1.length : Int)
            ·rw [if_pos c28] at H
             have c28b0 : decide ((rd t17004 x29_2) < (l0_1.length : Int)) = true := decide_eq_true c28
             clear c28
             replace H := Option.bind_eq_some_iff.mp H
             obtain ⟨t17011, A290, H⟩ := H
             replace H : (if t17011 = true then (spec_ChoiceOk.l0 k2 t17004 (t17004.length : Int) (wrap64 (x29_2 + 1)) l0_0 l0_1 a0_2 l1_0 l1_1) else (some false)) = some r := H
             have A29 := Aside0.mk A290; clear A290
             by_cases c30 : t17011 = true
             ·subst c30
              have H1 : (spec_ChoiceOk.l0 k2 t17004 (t17004.length : Int) (wrap64 (x29_2 + 1)) l0_0 l0_1 a0_2 l1_0 l1_1) = some r := by rw [if_pos rfl] at H; exact H
              clear H
              have H := H1
              clear H1
              have H' := Aside0.mk H
              clear H
              have p17007 : 0 ≤ (x29_2 : Int) := of_decide_eq_true (by with_reducible assumption)
              have q17007 : x29_2 < (t17004.length : Int) := of_decide_eq_true (by with_reducible assumption)
              obtain ⟨ad17007, e17007, hx17007_0⟩ := Kd.at_int (Kd.R_reads' HO_27.out).2.2 x29_2 p17007 q17007
              cases e17007
              replace p17007 := eq_true p17007
              replace q17007 := eq_true q17007
              have hnb31 := NB17002_17001.out
              have hnc31 := NB17001_17002.out
              have hcz32_0 : wr.cell? ⟨gb17002, 0, none⟩ = some (.slice A1_0 l1_0.length c1_0) := (blk_cell BK17002.out 0).trans rfl
              have hcz32_1 : wr.cell? ⟨gb17002, 1, none⟩ = some (.slice A1_1 l1_1.length c1_1) := (blk_cell BK17002.out 1).trans rfl
              have p17008 : 0 ≤ (x29_2 : Int) := of_decide_eq_true (by with_reducible assumption)
              have q17008 : x29_2 < (l1_0.length : Int) := of_decide_eq_true (by with_reducible assumption)
              obtain ⟨ad17008, e17008, hx17008_0⟩ := Kd.at_int HR1_0.out x29_2 p17008 q17008
              cases e17008
              replace hx17008_0 := (HB.out.cell (World.block_lt_of_cell? w _ hx17008_0)).trans hx17008_0
              replace p17008 := eq_true p17008
              replace q17008 := eq_true q17008
              have hcz33_0 : wr.cell? ⟨gb17001, 0, none⟩ = some (.slice A0_0 l0_0.length c0_0) := (blk_cell BK17001.out 0).trans rfl
              have hcz33_1 : wr.cell? ⟨gb17001, 1, none⟩ = some (.slice A0_1 l0_1.length c0_1) := (blk_cell BK17001.out 1).trans rfl
              have hcz33_2 : wr.cell? ⟨gb17001, 2, none⟩ = some (.int .i64 a0_2) := (blk_cell BK17001.out 2).trans rfl
              have p17009 : 0 ≤ ((rd t17004 x29_2) : Int) := of_decide_eq_true (by with_reducible assumption)
              have q17009 : (rd t17004 x29_2) < (l0_1.length : Int) := of_decide_eq_true (by with_reducible assumption)
              obtain ⟨ad17009, e17009, hx17009_0, hx17009_1, hx17009_2, hx17009_3, hx17009_4⟩ := at_T90 HR0_1.out (rd t17004 x29_2) p17009 q17009
              cases e17009
              replace hx17009_0 := (HB.out.cell (World.block_lt_of_cell? w _ hx17009_0)).trans hx17009_0
              replace hx17009_1 := (HB.out.cell (World.block_lt_of_cell? w _ hx17009_1)).trans hx17009_1
              replace hx17009_2 := (HB.out.cell (World.block_lt_of_cell? w _ hx17009_2)).trans hx17009_2
              replace hx17009_3 := (HB.out.cell (World.block_lt_of_cell? w _ hx17009_3)).trans hx17009_3
              replace hx17009_4 := (HB.out.cell (World.block_lt_of_cell? w _ hx17009_4)).trans hx17009_4
              replace p17009 := eq_true p17009
              replace q17009 := eq_true q17009
              have p17010 : 0 ≤ ((rd t17004 x29_2) : Int) := of_decide_eq_true (by with_reducible assumption)
              have q17010 : (rd t17004 x29_2) < (l0_1.length : Int) := of_decide_eq_true (by with_reducible assumption)
              obtain ⟨ad17010, e17010, hx17010_0, hx17010_1, hx17010_2, hx17010_3, hx17010_4⟩ := at_T90 HR0_1.out (rd t17004 x29_2) p17010 q17010
              obtain rfl : ad17009 = ad17010 := (by injection e17010)
              replace hx17010_0 := (HB.out.cell (World.block_lt_of_cell? w _ hx17010_0)).trans hx17010_0
              replace hx17010_1 := (HB.out.cell (World.block_lt_of_cell? w _ hx17010_1)).trans hx17010_1
              replace hx17010_2 := (HB.out.cell (World.block_lt_of_cell? w _ hx17010_2)).trans hx17010_2
              replace hx17010_3 := (HB.out.cell (World.block_lt_of_cell? w _ hx17010_3)).trans hx17010_3
              replace hx17010_4 := (HB.out.cell (World.block_lt_of_cell? w _ hx17010_4)).trans hx17010_4
              replace p17010 := eq_true p17010
              replace q17010 := eq_true q17010
              go_wp2_with (first | fail)
              repeat (go_quiet (first | (go_at_call 68; (with_reducible refine (spec_l01In.calls (rd l1_0 x29_2) ((rd_T90 l0_1 (rd t17004 x29_2)).f2) ((rd_T90 l0_1 (rd t17004 x29_2)).f3) true _ A29.out).mono ?_); rintro e w' ⟨rfl, ⟨nd, rfl⟩⟩; (try first | exact ⟨rfl, _, World.drewN_drewN _ _ _⟩ | exact ⟨rfl, _, Eq.trans (World.drewN_drewN _ _ _) (congrArg (World.drewN _) (Nat.add_assoc _ _ _))⟩))); try go_wp2_with (first | fail))
              go_roundg k2
              case measure => have := HJ5.out; have := HK2.out; omega
              case rel => exact ⟨(wrap64 (x29_2 + 1)), (by first | rfl | (simp; done) | (simp [*]; done)), H', ⟨by have := HJ5.out; have := HK2.out; omega⟩, ⟨by (with_reducible repeat (first | apply Kd.R_alloc | apply Kd.R_drewN | apply Kd.R_drew)); exact HO_27.out⟩, ⟨by (with_reducible repeat (first | refine blk_drewN ?_ _ | refine blk_drew ?_ | refine blk_alloc ?_ _)); exact BK17001.out⟩, ⟨by (with_reducible repeat (first | refine blk_drewN ?_ _ | refine blk_drew ?_ | refine blk_alloc ?_ _)); exact BK17002.out⟩, ⟨by repeat (first | (with_reducible first | exact HB.out | apply below_alloc | apply pw_below_drewN | apply below_drew1 | refine below_set ?_ GE17001.out | refine below_set ?_ GE17002.out) | exact HB.out)⟩⟩
             ·replace c30 := Bool.eq_false_iff.mpr c30
              subst c30
              have H1 : (some false) = some r := by rw [if_neg (show ¬ (false = true) by decide)] at H; exact H
              clear H
              have H := H1
              clear H1
              obtain rfl := Option.some.inj H
              have p17007 : 0 ≤ (x29_2 : Int) := of_decide_eq_true (by with_reducible assumption)
              have q17007 : x29_2 < (t17004.length : Int) := of_decide_eq_true (by with_reducible assumption)
              obtain ⟨ad17007, e17007, hx17007_0⟩ := Kd.at_int (Kd.R_reads' HO_27.out).2.2 x29_2 p17007 q17007
              cases e17007
              replace p17007 := eq_true p17007
              replace q17007 := eq_true q17007
              have hnb34 := NB17002_17001.out
              have hnc34 := NB17001_17002.out
              have hcz35_0 : wr.cell? ⟨gb17002, 0, none⟩ = some (.slice A1_0 l1_0.length c1_0) := (blk_cell BK17002.out 0).trans rfl
              have hcz35_1 : wr.cell? ⟨gb17002, 1, none⟩ = some (.slice A1_1 l1_1.length c1_1) := (blk_cell BK17002.out 1).trans rfl
              have p17008 : 0 ≤ (x29_2 : Int) := of_decide_eq_true (by with_reducible assumption)
              have q17008 : x29_2 < (l1_0.length : Int) := of_decide_eq_true (by with_reducible assumption)
              obtain ⟨ad17008, e17008, hx17008_0⟩ := Kd.at_int HR1_0.out x29_2 p17008 q17008
              cases e17008
              replace hx17008_0 := (HB.out.cell (World.block_lt_of_cell? w _ hx17008_0)).trans hx17008_0
              replace p17008 := eq_true p17008
              replace q17008 := eq_true q17008
              have hcz36_0 : wr.cell? ⟨gb17001, 0, none⟩ = some (.slice A0_0 l0_0.length c0_0) := (blk_cell BK17001.out 0).trans rfl
              have hcz36_1 : wr.cell? ⟨gb17001, 1, none⟩ = some (.slice A0_1 l0_1.length c0_1) := (blk_cell BK17001.out 1).trans rfl
              have hcz36_2 : wr.cell? ⟨gb17001, 2, none⟩ = some (.int .i64 a0_2) := (blk_cell BK17001.out 2).trans rfl
              have p17009 : 0 ≤ ((rd t17004 x29_2) : Int) := of_decide_eq_true (by with_reducible assumption)
              have q17009 : (rd t17004 x29_2) < (l0_1.length : Int) := of_decide_eq_true (by with_reducible assumption)
              obtain ⟨ad17009, e17009, hx17009_0, hx17009_1, hx17009_2, hx17009_3, hx17009_4⟩ := at_T90 HR0_1.out (rd t17004 x29_2) p17009 q17009
              cases e17009
              replace hx17009_0 := (HB.out.cell (World.block_lt_of_cell? w _ hx17009_0)).trans hx17009_0
              replace hx17009_1 := (HB.out.cell (World.block_lt_of_cell? w _ hx17009_1)).trans hx17009_1
              replace hx17009_2 := (HB.out.cell (World.block_lt_of_cell? w _ hx17009_2)).trans hx17009_2
              replace hx17009_3 := (HB.out.cell (World.block_lt_of_cell? w _ hx17009_3)).trans hx17009_3
              replace hx17009_4 := (HB.out.cell (World.block_lt_of_cell? w _ hx17009_4)).trans hx17009_4
              replace p17009 := eq_true p17009
              replace q17009 := eq_true q17009
              have p17010 : 0 ≤ ((rd t17004 x29_2) : Int) := of_decide_eq_true (by with_reducible assumption)
              have q17010 : (rd t17004 x29_2) < (l0_1.length : Int) := of_decide_eq_true (by with_reducible assumption)
              obtain ⟨ad17010, e17010, hx17010_0, hx17010_1, hx17010_2, hx17010_3, hx17010_4⟩ := at_T90 HR0_1.out (rd t17004 x29_2) p17010 q17010
              obtain rfl : ad17009 = ad17010 := (by injection e17010)
              replace hx17010_0 := (HB.out.cell (World.block_lt_of_cell? w _ hx17010_0)).trans hx17010_0
              replace hx17010_1 := (HB.out.cell (World.block_lt_of_cell? w _ hx17010_1)).trans hx17010_1
              replace hx17010_2 := (HB.out.cell (World.block_lt_of_cell? w _ hx17010_2)).trans hx17010_2
              replace hx17010_3 := (HB.out.cell (World.block_lt_of_cell? w _ hx17010_3)).trans hx17010_3
              replace hx17010_4 := (HB.out.cell (World.block_lt_of_cell? w _ hx17010_4)).trans hx17010_4
              replace p17010 := eq_true p17010
              replace q17010 := eq_true q17010
              go_wp2_with (first | fail)
              repeat (go_quiet (first | (go_at_call 68; (with_reducible refine (spec_l01In.calls (rd l1_0 x29_2) ((rd_T90 l0_1 (rd t17004 x29_2)).f2) ((rd_T90 l0_1 (rd t17004 x29_2)).f3) false _ A29.out).mono ?_); rintro e w' ⟨rfl, ⟨nd, rfl⟩⟩; (try first | exact ⟨rfl, _, World.drewN_drewN _ _ _⟩ | exact ⟨rfl, _, Eq.trans (World.drewN_drewN _ _ _) (congrArg (World.drewN _) (Nat.add_assoc _ _ _))⟩))); try go_wp2_with (first | fail))
              go_ret
              exact ⟨by first | rfl | (simp [errW_none, errW_some] <;> rfl) | (simp [*, errW_none, errW_some] <;> rfl), by repeat (first | (with_reducible first | exact HB.out | apply below_alloc | apply pw_below_drewN | apply below_drew1 | refine below_set ?_ GE17001.out | refine below_set ?_ GE17002.out) | exact HB.out)⟩
            ·rw [if_neg c28] at H
             exact absurd H (by simp)
           ·rw [if_neg c27] at H
            exact absurd H (by simp)
          ·rw [if_neg c26] at H
           exact absurd H (by simp)
         ·rw [if_neg c25] at H
          exact absurd H (by simp)
        ·rw [if_neg c24] at H
         exact absurd H (by simp)
       ·rw [if_neg c23] at H
        have c23b0 : decide (x29_2 < (t17004.length : Int)) = false := decide_eq_false c23
        clear c23
        have H' := Aside0.mk H
        clear H
        have hnb37 := NB17002_17001.out
        have hnc37 := NB17001_17002.out
        have hcz38_0 : wr.cell? ⟨gb17002, 0, none⟩ = some (.slice A1_0 l1_0.length c1_0) := (blk_cell BK17002.out 0).trans rfl
        have hcz38_1 : wr.cell? ⟨gb17002, 1, none⟩ = some (.slice A1_1 l1_1.length c1_1) := (blk_cell BK17002.out 1).trans rfl
        go_wp2
        repeat (go_quiet (fail); try go_wp2)
        go_loopg [57] k2 (fun kq v57 w' => ∃ (x57_3 : Int), v57 = .int .i64 x57_3 ∧ Aside0 (spec_ChoiceOk.l1 kq l1_1 (l1_1.length : Int) x57_3 l0_0 l0_1 a0_2 = some r) ∧ Aside0 (kq ≤ k2) ∧ Aside0 (w'.heap[gb17001]? = some (.cells #[(.slice A0_0 l0_0.length c0_0), (.slice A0_1 l0_1.length c0_1), .int .i64 a0_2] 35 (0, 0))) ∧ Aside0 (w'.heap[gb17002]? = some (.cells #[(.slice A1_0 l1_0.length c1_0), (.slice A1_1 l1_1.length c1_1)] 37 (0, 0))) ∧ Aside0 (Below w.heap.size w w'))
        case atStart => exact ⟨(0), (by first | rfl | (simp; done) | (simp [*]; done)), H', ⟨Nat.le_refl _⟩, ⟨by (with_reducible repeat (first | refine blk_drewN ?_ _ | refine blk_drew ?_ | refine blk_alloc ?_ _)); exact BK17001.out⟩, ⟨by (with_reducible repeat (first | refine blk_drewN ?_ _ | refine blk_drew ?_ | refine blk_alloc ?_ _)); exact BK17002.out⟩, ⟨by repeat (first | (with_reducible first | exact HB.out | apply below_alloc | apply pw_below_drewN | apply below_drew1 | refine below_set ?_ GE17001.out | refine below_set ?_ GE17002.out) | exact HB.out)⟩⟩
        case round =>
         clear H'
         try clear c1
         try clear p1
         try clear q1
         try clear c2
         try clear p2
         try clear c3
         try clear c4
         try clear p6
         try clear c9
         try clear c14
         try clear c14b0
         try clear c14b1
         try clear c14b2
         try clear c15
         try clear c17
         try clear p17
         try clear q17
         try clear c18
         try clear c21
         try clear c23
         try clear c23b0
         try clear c24
         try clear c24b0
         try clear c25
         try clear c25b0
         try clear c26
         try clear c26b0
         try clear c27
         try clear c27b0
         try clear c28
         try clear c28b0
         try clear c30
         try clear c31
         try clear c34
         try clear c37
         try clear p17007
         try clear p17008
         try clear p17009
         try clear p17010
         try clear p2
         try clear q17007
         try clear q17008
         try clear q17009
         try clear q17010
         obtain ⟨x57_3, rfl, HA, HK3, BK17001, BK17002, HB⟩ := hrel
         cases gk with
         | zero => exact absurd HA.out (by simp [spec_ChoiceOk.l1])
         | succ k3 =>
          have H := HA.out
          clear HA
          simp only [spec_ChoiceOk.l1] at H
          by_cases c39 : x57_3 < (l1_1.length : Int)
          ·rw [if_pos c39] at H
           have c39b0 : decide (x57_3 < (l1_1.length : Int)) = true := decide_eq_true c39
           clear c39
           by_cases c40 : 0 ≤ x57_3
           ·rw [if_pos c40] at H
            have c40b0 : decide (0 ≤ x57_3) = true := decide_eq_true c40
            clear c40
            by_cases c41 : x57_3 < (l1_1.length : Int)
            ·rw [if_pos c41] at H
             have c41b0 : decide (x57_3 < (l1_1.length : Int)) = true := decide_eq_true c41
             clear c41
             by_cases c42 : (rd l1_1 x57_3) = 1
             ·rw [if_pos c42] at H
              have c42b0 : ((rd l1_1 x57_3) == 1) = true := beq_iff_eq.mpr c42
              have c42b1 : ((rd l1_1 x57_3) != 1) = false := bne_eq_false_iff_eq.mpr c42
              clear c42
              by_cases c43 : (rd l1_1 x57_3) = (-1)
              ·rw [if_pos c43] at H
               have c43b0 : ((rd l1_1 x57_3) == (-1)) = true := beq_iff_eq.mpr c43
               have c43b1 : ((rd l1_1 x57_3) != (-1)) = false := bne_eq_false_iff_eq.mpr c43
               clear c43
               replace H := Option.bind_eq_some_iff.mp H
               obtain ⟨t17013, A440, H⟩ := H
               replace H : (if t17013 < 0 then (some false) else (spec_ChoiceOk.l1 k3 l1_1 (l1_1.length : Int) (wrap64 (x57_3 + 1)) l0_0 l0_1 a0_2)) = some r := H
               have A44 := Aside0.mk A440; clear A440
               by_cases c45 : t17013 < 0
               ·rw [if_pos c45] at H
                have c45b0 : decide (t17013 < 0) = true := decide_eq_true c45
                clear c45
                obtain rfl := Option.some.inj H
                have p17012 : 0 ≤ (x57_3 : Int) := of_decide_eq_true (by with_reducible assumption)
                have q17012 : x57_3 < (l1_1.length : Int) := of_decide_eq_true (by with_reducible assumption)
                obtain ⟨ad17012, e17012, hx17012_0⟩ := Kd.at_int HR1_1.out x57_3 p17012 q17012
                cases e17012
                replace hx17012_0 := (HB.out.cell (World.block_lt_of_cell? w _ hx17012_0)).trans hx17012_0
                replace p17012 := eq_true p17012
                replace q17012 := eq_true q17012
                have hnb46 := NB17001_17002.out
                have hnc46 := NB17002_17001.out
                have hcz47_0 : wr.cell? ⟨gb17001, 0, none⟩ = some (.slice A0_0 l0_0.length c0_0) := (blk_cell BK17001.out 0).trans rfl
                have hcz47_1 : wr.cell? ⟨gb17001, 1, none⟩ = some (.slice A0_1 l0_1.length c0_1) := (blk_cell BK17001.out 1).trans rfl
                have hcz47_2 : wr.cell? ⟨gb17001, 2, none⟩ = some (.int .i64 a0_2) := (blk_cell BK17001.out 2).trans rfl
                go_wp2_with (first | (go_at_call 69; (with_reducible refine (spec_l08Watcher.calls k3 _ _ l0_0 _ _ l0_1 a0_2 (wrap64 (x57_3 + 1)) t17013 _ ?side1 ?side2 ?side3 ?side4 A44.out).mono ?_); (case side1 => exact (Kd.C_below HR0_0.out HB.out)); (case side2 => exact HC0_0.out); (case side3 => exact (Kd.C_below HR0_1.out HB.out)); (case side4 => exact HC0_1.out); rintro e w48 ⟨rfl, hb⟩; have n0_ := Aside0.mk (blk_below (g := gb17001) (o := .cells #[.slice A0_0 l0_0.length c0_0, .slice A0_1 l0_1.length c0_1, .int .i64 a0_2] 35 (0, 0)) BK17001.out hb); have n1_ := Aside0.mk (blk_below (g := gb17002) (o := .cells #[.slice A1_0 l1_0.length c1_0, .slice (some ad17012) l1_1.length c1_1] 37 (0, 0)) BK17002.out hb); have n2_ := Aside0.mk (below_step (by exact HB.out) hb); clear BK17001; clear BK17002; clear HB; have BK17001 := n0_; have BK17002 := n1_; have HB := n2_; clear n0_ n1_ n2_; (try clear hi)))
                go_ret
                exact ⟨by first | rfl | (simp [errW_none, errW_some] <;> rfl) | (simp [*, errW_none, errW_some] <;> rfl), by repeat (first | (with_reducible first | exact HB.out | apply below_alloc | apply pw_below_drewN | apply below_drew1 | refine below_set ?_ GE17001.out | refine below_set ?_ GE17002.out) | exact HB.out)⟩
               ·rw [if_neg c45] at H
                have c45b0 : decide (t17013 < 0) = false := decide_eq_false c45
                clear c45
                have H' := Aside0.mk H
                clear H
                have p17012 : 0 ≤ (x57_3 : Int) := of_decide_eq_true (by with_reducible assumption)
                have q17012 : x57_3 < (l1_1.length : Int) := of_decide_eq_true (by with_reducible assumption)
                obtain ⟨ad17012, e17012, hx17012_0⟩ := Kd.at_int HR1_1.out x57_3 p17012 q17012
                cases e17012
                replace hx17012_0 := (HB.out.cell (World.block_lt_of_cell? w _ hx17012_0)).trans hx17012_0
                replace p17012 := eq_true p17012
                replace q17012 := eq_true q17012
                have hnb49 := NB17001_17002.out
                have hnc49 := NB17002_17001.out
                have hcz50_0 : wr.cell? ⟨gb17001, 0, none⟩ = some (.slice A0_0 l0_0.length c0_0) := (blk_cell BK17001.out 0).trans rfl
                have hcz50_1 : wr.cell? ⟨gb17001, 1, none⟩ = some (.slice A0_1 l0_1.length c0_1) := (blk_cell BK17001.out 1).trans rfl
                have hcz50_2 : wr.cell? ⟨gb17001, 2, none⟩ = some (.int .i64 a0_2) := (blk_cell BK17001.out 2).trans rfl
                go_wp2_with (first | (go_at_call 69; (with_reducible refine (spec_l08Watcher.calls k3 _ _ l0_0 _ _ l0_1 a0_2 (wrap64 (x57_3 + 1)) t17013 _ ?side1 ?side2 ?side3 ?side4 A44.out).mono ?_); (case side1 => exact (Kd.C_below HR0_0.out HB.out)); (case side2 => exact HC0_0.out); (case side3 => exact (Kd.C_below HR0_1.out HB.out)); (case side4 => exact HC0_1.out); rintro e w51 ⟨rfl, hb⟩; have n0_ := Aside0.mk (blk_below (g := gb17001) (o := .cells #[.slice A0_0 l0_0.length c0_0, .slice A0_1 l0_1.length c0_1, .int .i64 a0_2] 35 (0, 0)) BK17001.out hb); have n1_ := Aside0.mk (blk_below (g := gb17002) (o := .cells #[.slice A1_0 l1_0.length c1_0, .slice (some ad17012) l1_1.length c1_1] 37 (0, 0)) BK17002.out hb); have n2_ := Aside0.mk (below_step (by exact HB.out) hb); clear BK17001; clear BK17002; clear HB; have BK17001 := n0_; have BK17002 := n1_; have HB := n2_; clear n0_ n1_ n2_; (try clear hi)))
                go_roundg k3
                case measure => have := HJ5.out; have := HK2.out; have := HK3.out; omega
                case rel => exact ⟨(wrap64 (x57_3 + 1)), (by first | rfl | (simp; done) | (simp [*]; done)), H', ⟨by have := HJ5.out; have := HK2.out; have := HK3.out; omega⟩, ⟨by (with_reducible repeat (first | refine blk_drewN ?_ _ | refine blk_drew ?_ | refine blk_alloc ?_ _)); exact BK17001.out⟩, ⟨by (with_reducible repeat (first | refine blk_drewN ?_ _ | refine blk_drew ?_ | refine blk_alloc ?_ _)); exact BK17002.out⟩, ⟨by repeat (first | (with_reducible first | exact HB.out | apply below_alloc | apply pw_below_drewN | apply below_drew1 | refine below_set ?_ GE17001.out | refine below_set ?_ GE17002.out) | exact HB.out)⟩⟩
              ·rw [if_neg c43] at H
               have c43b0 : ((rd l1_1 x57_3) == (-1)) = false := beq_eq_false_iff_ne.mpr c43
               have c43b1 : ((rd l1_1 x57_3) != (-1)) = true := bne_iff_ne.mpr c43
               have H' := Aside0.mk H
               clear H
               have p17012 : 0 ≤ (x57_3 : Int) := of_decide_eq_true (by with_reducible assumption)
               have q17012 : x57_3 < (l1_1.length : Int) := of_decide_eq_true (by with_reducible assumption)
               obtain ⟨ad17012, e17012, hx17012_0⟩ := Kd.at_int HR1_1.out x57_3 p17012 q17012
               cases e17012
               replace hx17012_0 := (HB.out.cell (World.block_lt_of_cell? w _ hx17012_0)).trans hx17012_0
               replace p17012 := eq_true p17012
               replace q17012 := eq_true q17012
               go_wp2
               repeat (go_quiet (fail); try go_wp2)
               go_roundg k3
               case measure => have := HJ5.out; have := HK2.out; have := HK3.out; omega
               case rel => exact ⟨(wrap64 (x57_3 + 1)), (by first | rfl | (simp; done) | (simp [*]; done)), H', ⟨by have := HJ5.out; have := HK2.out; have := HK3.out; omega⟩, ⟨by (with_reducible repeat (first | refine blk_drewN ?_ _ | refine blk_drew ?_ | refine blk_alloc ?_ _)); exact BK17001.out⟩, ⟨by (with_reducible repeat (first | refine blk_drewN ?_ _ | refine blk_drew ?_ | refine blk_alloc ?_ _)); exact BK17002.out⟩, ⟨by repeat (first | (with_reducible first | exact HB.out | apply below_alloc | apply pw_below_drewN | apply below_drew1 | refine below_set ?_ GE17001.out | refine below_set ?_ GE17002.out) | exact HB.out)⟩⟩
             ·rw [if_neg c42] at H
              have c42b0 : ((rd l1_1 x57_3) == 1) = false := beq_eq_false_iff_ne.mpr c42
              have c42b1 : ((rd l1_1 x57_3) != 1) = true := bne_iff_ne.mpr c42
              by_cases c52 : (rd l1_1 x57_3) = (-1)
              ·rw [if_pos c52] at H
               have c52b0 : ((rd l1_1 x57_3) == (-1)) = true := beq_iff_eq.mpr c52
               have c52b1 : ((rd l1_1 x57_3) != (-1)) = false := bne_eq_false_iff_eq.mpr c52
               clear c52
               replace H := Option.bind_eq_some_iff.mp H
               obtain ⟨t17014, A530, H⟩ := H
               replace H : (if t17014 < 0 then (some false) else (spec_ChoiceOk.l1 k3 l1_1 (l1_1.length : Int) (wrap64 (x57_3 + 1)) l0_0 l0_1 a0_2)) = some r := H
               have A53 := Aside0.mk A530; clear A530
               by_cases c54 : t17014 < 0
               ·rw [if_pos c54] at H
                have c54b0 : decide (t17014 < 0) = true := decide_eq_true c54
                clear c54
                obtain rfl := Option.some.inj H
                have p17012 : 0 ≤ (x57_3 : Int) := of_decide_eq_true (by with_reducible assumption)
                have q17012 : x57_3 < (l1_1.length : Int) := of_decide_eq_true (by with_reducible assumption)
                obtain ⟨ad17012, e17012, hx17012_0⟩ := Kd.at_int HR1_1.out x57_3 p17012 q17012
                cases e17012
                replace hx17012_0 := (HB.out.cell (World.block_lt_of_cell? w _ hx17012_0)).trans hx17012_0
                replace p17012 := eq_true p17012
                replace q17012 := eq_true q17012
                have hnb55 := NB17001_17002.out
                have hnc55 := NB17002_17001.out
                have hcz56_0 : wr.cell? ⟨gb17001, 0, none⟩ = some (.slice A0_0 l0_0.length c0_0) := (blk_cell BK17001.out 0).trans rfl
                have hcz56_1 : wr.cell? ⟨gb17001, 1, none⟩ = some (.slice A0_1 l0_1.length c0_1) := (blk_cell BK17001.out 1).trans rfl
                have hcz56_2 : wr.cell? ⟨gb17001, 2, none⟩ = some (.int .i64 a0_2) := (blk_cell BK17001.out 2).trans rfl
                go_wp2_with (first | (go_at_call 69; (with_reducible refine (spec_l08Watcher.calls k3 _ _ l0_0 _ _ l0_1 a0_2 (wrap64 (x57_3 + 1)) t17014 _ ?side1 ?side2 ?side3 ?side4 A53.out).mono ?_); (case side1 => exact (Kd.C_below HR0_0.out HB.out)); (case side2 => exact HC0_0.out); (case side3 => exact (Kd.C_below HR0_1.out HB.out)); (case side4 => exact HC0_1.out); rintro e w57 ⟨rfl, hb⟩; have n0_ := Aside0.mk (blk_below (g := gb17001) (o := .cells #[.slice A0_0 l0_0.length c0_0, .slice A0_1 l0_1.length c0_1, .int .i64 a0_2] 35 (0, 0)) BK17001.out hb); have n1_ := Aside0.mk (blk_below (g := gb17002) (o := .cells #[.slice A1_0 l1_0.length c1_0, .slice (some ad17012) l1_1.length c1_1] 37 (0, 0)) BK17002.out hb); have n2_ := Aside0.mk (below_step (by exact HB.out) hb); clear BK17001; clear BK17002; clear HB; have BK17001 := n0_; have BK17002 := n1_; have HB := n2_; clear n0_ n1_ n2_; (try clear hi)))
                go_ret
                exact ⟨by first | rfl | (simp [errW_none, errW_some] <;> rfl) | (simp [*, errW_none, errW_some] <;> rfl), by repeat (first | (with_reducible first | exact HB.out | apply below_alloc | apply pw_below_drewN | apply below_drew1 | refine below_set ?_ GE17001.out | refine below_set ?_ GE17002.out) | exact HB.out)⟩
               ·rw [if_neg c54] at H
                have c54b0 : decide (t17014 < 0) = false := decide_eq_false c54
                clear c54
                have H' := Aside0.mk H
                clear H
                have p17012 : 0 ≤ (x57_3 : Int) := of_decide_eq_true (by with_reducible assumption)
                have q17012 : x57_3 < (l1_1.length : Int) := of_decide_eq_true (by with_reducible assumption)
                obtain ⟨ad17012, e17012, hx17012_0⟩ := Kd.at_int HR1_1.out x57_3 p17012 q17012
                cases e17012
                replace hx17012_0 := (HB.out.cell (World.block_lt_of_cell? w _ hx17012_0)).trans hx17012_0
                replace p17012 := eq_true p17012
                replace q17012 := eq_true q17012
                have hnb58 := NB17001_17002.out
                have hnc58 := NB17002_17001.out
                have hcz59_0 : wr.cell? ⟨gb17001, 0, none⟩ = some (.slice A0_0 l0_0.length c0_0) := (blk_cell BK17001.out 0).trans rfl
                have hcz59_1 : wr.cell? ⟨gb17001, 1, none⟩ = some (.slice A0_1 l0_1.length c0_1) := (blk_cell BK17001.out 1).trans rfl
                have hcz59_2 : wr.cell? ⟨gb17001, 2, none⟩ = some (.int .i64 a0_2) := (blk_cell BK17001.out 2).trans rfl
                go_wp2_with (first | (go_at_call 69; (with_reducible refine (spec_l08Watcher.calls k3 _ _ l0_0 _ _ l0_1 a0_2 (wrap64 (x57_3 + 1)) t17014 _ ?side1 ?side2 ?side3 ?side4 A53.out).mono ?_); (case side1 => exact (Kd.C_below HR0_0.out HB.out)); (case side2 => exact HC0_0.out); (case side3 => exact (Kd.C_below HR0_1.out HB.out)); (case side4 => exact HC0_1.out); rintro e w60 ⟨rfl, hb⟩; have n0_ := Aside0.mk (blk_below (g := gb17001) (o := .cells #[.slice A0_0 l0_0.length c0_0, .slice A0_1 l0_1.length c0_1, .int .i64 a0_2] 35 (0, 0)) BK17001.out hb); have n1_ := Aside0.mk (blk_below (g := gb17002) (o := .cells #[.slice A1_0 l1_0.length c1_0, .slice (some ad17012) l1_1.length c1_1] 37 (0, 0)) BK17002.out hb); have n2_ := Aside0.mk (below_step (by exact HB.out) hb); clear BK17001; clear BK17002; clear HB; have BK17001 := n0_; have BK17002 := n1_; have HB := n2_; clear n0_ n1_ n2_; (try clear hi)))
                go_roundg k3
                case measure => have := HJ5.out; have := HK2.out; have := HK3.out; omega
                case rel => exact ⟨(wrap64 (x57_3 + 1)), (by first | rfl | (simp; done) | (simp [*]; done)), H', ⟨by have := HJ5.out; have := HK2.out; have := HK3.out; omega⟩, ⟨by (with_reducible repeat (first | refine blk_drewN ?_ _ | refine blk_drew ?_ | refine blk_alloc ?_ _)); exact BK17001.out⟩, ⟨by (with_reducible repeat (first | refine blk_drewN ?_ _ | refine blk_drew ?_ | refine blk_alloc ?_ _)); exact BK17002.out⟩, ⟨by repeat (first | (with_reducible first | exact HB.out | apply below_alloc | apply pw_below_drewN | apply below_drew1 | refine below_set ?_ GE17001.out | refine below_set ?_ GE17002.out) | exact HB.out)⟩⟩
              ·rw [if_neg c52] at H
               have c52b0 : ((rd l1_1 x57_3) == (-1)) = false := beq_eq_false_iff_ne.mpr c52
               have c52b1 : ((rd l1_1 x57_3) != (-1)) = true := bne_iff_ne.mpr c52
               obtain rfl := Option.some.inj H
               have p17012 : 0 ≤ (x57_3 : Int) := of_decide_eq_true (by with_reducible assumption)
               have q17012 : x57_3 < (l1_1.length : Int) := of_decide_eq_true (by with_reducible assumption)
               obtain ⟨ad17012, e17012, hx17012_0⟩ := Kd.at_int HR1_1.out x57_3 p17012 q17012
               cases e17012
               replace hx17012_0 := (HB.out.cell (World.block_lt_of_cell? w _ hx17012_0)).trans hx17012_0
               replace p17012 := eq_true p17012
               replace q17012 := eq_true q17012
               go_wp2
               repeat (go_quiet (fail); try go_wp2)
               go_ret
               exact ⟨by first | rfl | (simp [errW_none, errW_some] <;> rfl) | (simp [*, errW_none, errW_some] <;> rfl), by repeat (first | (with_reducible first | exact HB.out | apply below_alloc | apply pw_below_drewN | apply below_drew1 | refine below_set ?_ GE17001.out | refine below_set ?_ GE17002.out) | exact HB.out)⟩
            ·rw [if_neg c41] at H
             exact absurd H (by simp)
           ·rw [if_neg c40] at H
            exact absurd H (by simp)
          ·rw [if_neg c39] at H
           have c39b0 : decide (x57_3 < (l1_1.length : Int)) = false := decide_eq_false c39
           clear c39
           obtain rfl := Option.some.inj H
           go_wp2
           repeat (go_quiet (fail); try go_wp2)
           go_ret
           exact ⟨by first | rfl | (simp [errW_none, errW_some] <;> rfl) | (simp [*, errW_none, errW_some] <;> rfl), by repeat (first | (with_reducible first | exact HB.out | apply below_alloc | apply pw_below_drewN | apply below_drew1 | refine below_set ?_ GE17001.out | refine below_set ?_ GE17002.out) | exact HB.out)⟩
 ·replace c4 := Bool.eq_false_iff.mpr c4
  subst c4
  have H1 : (some false) = some r := by rw [if_neg (show ¬ (false = true) by decide)] at H; exact H
  clear H
  have H := H1
  clear H1
  obtain rfl := Option.some.inj H
  go_enter Try.func17, Try.ntmps17
  go_wp2_with (first | ((with_reducible refine gate_dst (N := 2) rfl ?_); (try (refine gate_guard (by rfl) ?_; dsimp only)); refine box_event ?hg (N := 2) ?hd (cs := #[.slice A0_0 l0_0.length c0_0, .slice A0_1 l0_1.length c0_1, .int .i64 a0_2]) (t := 35) ?hr ?_; (case hd => rfl); (case hg => rfl); (case hr => first | (go_simp; done) | (go_simp; rfl)); intro gb17001 hg w61 hbox hb; have n0_ := Aside0.mk (below_step (by exact HB.out) hb); have n1_ := Aside0.mk (hbox); have n2_ := Aside0.mk ((by rw [hg]; exact (below_size (by exact HB.out)) : w.heap.size ≤ gb17001)); have n3_ := n2_; clear HB; have HB := n0_; have BK17001 := n1_; have GW17001 := n2_; have GE17001 := n3_; clear n0_ n1_ n2_ n3_; clear hb hbox hg) | ((with_reducible refine gate_dst (N := 3) rfl ?_); (try (refine gate_guard (by rfl) ?_; dsimp only)); refine box_event ?hg (N := 3) ?hd (cs := #[.slice A1_0 l1_0.length c1_0, .slice A1_1 l1_1.length c1_1]) (t := 37) ?hr ?_; (case hd => rfl); (case hg => rfl); (case hr => first | (go_simp; done) | (go_simp; rfl)); intro gb17002 hg w62 hbox hb; have n0_ := Aside0.mk (blk_below (g := gb17001) (o := .cells #[.slice A0_0 l0_0.length c0_0, .slice A0_1 l0_1.length c0_1, .int .i64 a0_2] 35 (0, 0)) BK17001.out hb); have n1_ := Aside0.mk (below_step (by exact HB.out) hb); have n2_ := Aside0.mk (hbox); have n3_ := Aside0.mk ((by rw [hg]; exact (below_size (by exact HB.out)) : w.heap.size ≤ gb17002)); have n4_ := n3_; have n5_ := Aside0.mk ((by rw [hg]; exact Nat.ne_of_lt (blk_lt (g := gb17001) (o := .cells #[.slice A0_0 l0_0.length c0_0, .slice A0_1 l0_1.length c0_1, .int .i64 a0_2] 35 (0, 0)) BK17001.out) : gb17001 ≠ gb17002)); have n6_ := Aside0.mk n5_.out.symm; clear BK17001; clear HB; have BK17001 := n0_; have HB := n1_; have BK17002 := n2_; have GW17002 := n3_; have GE17002 := n4_; have NB17001_17002 := n5_; have NB17002_17001 := n6_; clear n0_ n1_ n2_ n3_ n4_ n5_ n6_; clear hb hbox hg; have hnb63 := NB17001_17002.out; have hnc63 := NB17002_17001.out; have hcz64_0 : w62.cell? ⟨gb17001, 0, none⟩ = some (.slice A0_0 l0_0.length c0_0) := (blk_cell BK17001.out 0).trans rfl; have hcz64_1 : w62.cell? ⟨gb17001, 1, none⟩ = some (.slice A0_1 l0_1.length c0_1) := (blk_cell BK17001.out 1).trans rfl; have hcz64_2 : w62.cell? ⟨gb17001, 2, none⟩ = some (.int .i64 a0_2) := (blk_cell BK17001.out 2).trans rfl) | (go_at_call 66; (with_reducible refine (spec_ShowOk.calls k _ _ l0_0 _ _ l0_1 a0_2 false _ ?side1 ?side2 ?side3 ?side4 A3.out).mono ?_); (case side1 => exact (Kd.C_below HR0_0.out HB.out)); (case side2 => exact HC0_0.out); (case side3 => exact (Kd.C_below HR0_1.out HB.out)); (case side4 => exact HC0_1.out); rintro e w65 ⟨rfl, hb⟩; have n0_ := Aside0.mk (blk_below (g := gb17001) (o := .cells #[.slice A0_0 l0_0.length c0_0, .slice A0_1 l0_1.length c0_1, .int .i64 a0_2] 35 (0, 0)) BK17001.out hb); have n1_ := Aside0.mk (blk_below (g := gb17002) (o := .cells #[.slice A1_0 l1_0.length c1_0, .slice A1_1 l1_1.length c1_1] 37 (0, 0)) BK17002.out hb); have n2_ := Aside0.mk (below_step (by exact HB.out) hb); clear BK17001; clear BK17002; clear HB; have BK17001 := n0_; have BK17002 := n1_; have HB := n2_; clear n0_ n1_ n2_; (try clear hi)))
  go_ret
  exact ⟨by first | rfl | (simp [errW_none, errW_some] <;> rfl) | (simp [*, errW_none, errW_some] <;> rfl), by repeat (first | (with_reducible first | exact HB.out | apply below_alloc | apply pw_below_drewN | apply below_drew1 | refine below_set ?_ GE17001.out | refine below_set ?_ GE17002.out) | exact HB.out)⟩

mutual
def spec_TimesFor.j0 : Nat → List Int → Bool → List (S116) → List (S90) → Int → List Int → List Int → Option (List Int × Bool)
 | 0, _, _, _, _, _, _, _ => none
 | k + 1, x2, x33, x57002000, x57002001, x57002002, x57003000, x57003001 => if x33 = true then (some (([] : List Int), false)) else (spec_TimesFor.l0 k x2 (([] : List Int)) (x57002000.length : Int) 0 x57002000 x57002001 x57002002 x57003000 x57003001)
def spec_TimesFor.l0 : Nat → List Int → List Int → Int → Int → List (S116) → List (S90) → Int → List Int → List Int → Option (List Int × Bool)
 | 0, _, _, _, _, _, _, _, _, _ => none
 | k + 1, x2, x8, x37, x38, x57002000, x57002001, x57002002, x57003000, x57003001 => if x38 < x37 then ((spec_l12Base.f k x57002000 x57002001 x57002002 x38).bind fun bt57008 => (if 0 ≤ bt57008.1 then (if bt57008.1 < (x2.length : Int) then ((spec_l12Chain.f k x57002000 x57002001 x57002002 x38).bind fun t57013 => (spec_TimesFor.l1 k x2 x8 (rd x2 bt57008.1) x37 x38 t57013 (t57013.length : Int) 0 x57002000 x57002001 x57002002 x57003000 x57003001)) else (none)) else (none))) else (some (x8, true))
def spec_TimesFor.l1 : Nat → List Int → List Int → Int → Int → Int → List Int → Int → Int → List (S116) → List (S90) → Int → List Int → List Int → Option (List Int × Bool)
 | 0, _, _, _, _, _, _, _, _, _, _, _, _, _ => none
 | k + 1, x2, x8, x14, x37, x38, x55, x56, x57, x57002000, x57002001, x57002002, x57003000, x57003001 => if x57 < x56 then (if 0 ≤ x57 then (if x57 < (x55.length : Int) then ((spec_l10Length.f k x57002000 x57002001 x57002002 x57003000 x57003001 (rd x55 x57)).bind fun t57017 => (spec_TimesFor.l1 k x2 x8 (wrap64 (x14 + t57017)) x37 x38 x55 x56 (wrap64 (x57 + 1)) x57002000 x57002001 x57002002 x57003000 x57003001)) else (none)) else (none)) else (if x8.length < 17592186044416 then (spec_TimesFor.l0 k x2 (x8 ++ [x14]) x37 (wrap64 (x38 + 1)) x57002000 x57002001 x57002002 x57003000 x57003001) else (none))
end
def spec_TimesFor.f (k : Nat) (l0_0 : List (S116)) (l0_1 : List (S90)) (a0_2 : Int) (l1_0 : List Int) (l1_1 : List Int) (l2 : List Int) : Option (List Int × Bool) := (spec_ChoiceOk.f k l0_0 l0_1 a0_2 l1_0 l1_1).bind fun t57003 => (if t57003 = true then (if (l2.length : Int) = (l0_0.length : Int) then ((spec_l12Plain.f k l0_0 l0_1 a0_2).bind fun t57004 => (spec_TimesFor.j0 k l2 (!t57004) l0_0 l0_1 a0_2 l1_0 l1_1)) else (spec_TimesFor.j0 k l2 true l0_0 l0_1 a0_2 l1_0 l1_1)) else (spec_TimesFor.j0 k l2 true l0_0 l0_1 a0_2 l1_0 l1_1))
set_option maxHeartbeats 8000000 in
set_option maxRecDepth 100000 in
theorem spec_TimesFor.calls (k : Nat) (A0_0 : Option Addr) (c0_0 : Nat) (l0_0 : List (S116)) (A0_1 : Option Addr) (c0_1 : Nat) (l0_1 : List (S90)) (a0_2 : Int) (A1_0 : Option Addr) (c1_0 : Nat) (l1_0 : List Int) (A1_1 : Option Addr) (c1_1 : Nat) (l1_1 : List Int) (A2 : Option Addr) (c2 : Nat) (l2 : List Int) (r1 : List Int) (r2 : Bool) (w : World) (hr0_0 : Kd.C k116 w A0_0 l0_0.length l0_0) (hc0_0 : l0_0.length ≤ c0_0) (hr0_1 : Kd.C k90 w A0_1 l0_1.length l0_1) (hc0_1 : l0_1.length ≤ c0_1) (hr1_0 : Kd.C (Kd.int .i64) w A1_0 l1_0.length l1_0) (hc1_0 : l1_0.length ≤ c1_0) (hr1_1 : Kd.C (Kd.int .i64) w A1_1 l1_1.length l1_1) (hc1_1 : l1_1.length ≤ c1_1) (hr2 : Kd.C (Kd.int .i64) w A2 l2.length l2) (hc2 : l2.length ≤ c2) (h : spec_TimesFor.f k l0_0 l0_1 a0_2 l1_0 l1_1 l2 = some (r1, r2)) :
  Calls Try.prog 57 #[.agg #[.slice A0_0 l0_0.length c0_0, .slice A0_1 l0_1.length c0_1, .int .i64 a0_2], .agg #[.slice A1_0 l1_0.length c1_0, .slice A1_1 l1_1.length c1_1], .slice A2 l2.length c2] w fun e w' => ∃ v0_ : Value, e = .returned (.tuple #[v0_, .bool r2]) ∧ Kd.R (Kd.int .i64) 3 w' w.heap.size (fun _ => True) v0_ r1 ∧ Below w.heap.size w w' := by
 have hu35 := Try.underlying35
 have hu37 := Try.underlying37
 have HR0_0 := Aside0.mk hr0_0; have HC0_0 := Aside0.mk hc0_0; clear hr0_0 hc0_0; have HR0_1 := Aside0.mk hr0_1; have HC0_1 := Aside0.mk hc0_1; clear hr0_1 hc0_1; have HR1_0 := Aside0.mk hr1_0; have HC1_0 := Aside0.mk hc1_0; clear hr1_0 hc1_0; have HR1_1 := Aside0.mk hr1_1; have HC1_1 := Aside0.mk hc1_1; clear hr1_1 hc1_1; have HR2 := Aside0.mk hr2; have HC2 := Aside0.mk hc2; clear hr2 hc2
 have HB := Aside0.mk (Below.refl w.heap.size w)
 have H : ((spec_ChoiceOk.f k l0_0 l0_1 a0_2 l1_0 l1_1).bind fun t57003 => (if t57003 = true then (if (l2.length : Int) = (l0_0.length : Int) then ((spec_l12Plain.f k l0_0 l0_1 a0_2).bind fun t57004 => (spec_TimesFor.j0 k l2 (!t57004) l0_0 l0_1 a0_2 l1_0 l1_1)) else (spec_TimesFor.j0 k l2 true l0_0 l0_1 a0_2 l1_0 l1_1)) else (spec_TimesFor.j0 k l2 true l0_0 l0_1 a0_2 l1_0 l1_1))) = some (r1, r2) := h
 clear h; have HC4 := Aside0.mk H; clear H
 go_enter Try.func57, Try.ntmps57
 go_upto_region 1 with (first | ((with_reducible refine gate_dst (N := 3) rfl ?_); refine box_event ?hg (N := 3) ?hd (cs := #[.slice A0_0 l0_0.length c0_0, .slice A0_1 l0_1.length c0_1, .int .i64 a0_2]) (t := 35) ?hr ?_; (case hd => rfl); (case hg => rfl); (case hr => first | (go_simp; done) | (go_simp; rfl)); intro gb57001 hg w5 hbox hb; have n0_ := Aside0.mk (below_step (by exact HB.out) hb); have n1_ := Aside0.mk (hbox); have n2_ := Aside0.mk ((by rw [hg]; exact (below_size (by exact HB.out)) : w.heap.size ≤ gb57001)); have n3_ := n2_; clear HB; have HB := n0_; have BK57001 := n1_; have GW57001 := n2_; have GE57001 := n3_; clear n0_ n1_ n2_ n3_; clear hb hbox hg) | ((with_reducible refine gate_dst (N := 4) rfl ?_); refine box_event ?hg (N := 4) ?hd (cs := #[.slice A1_0 l1_0.length c1_0, .slice A1_1 l1_1.length c1_1]) (t := 37) ?hr ?_; (case hd => rfl); (case hg => rfl); (case hr => first | (go_simp; done) | (go_simp; rfl)); intro gb57002 hg w6 hbox hb; have n0_ := Aside0.mk (blk_below (g := gb57001) (o := .cells #[.slice A0_0 l0_0.length c0_0, .slice A0_1 l0_1.length c0_1, .int .i64 a0_2] 35 (0, 0)) BK57001.out hb); have n1_ := Aside0.mk (below_step (by exact HB.out) hb); have n2_ := Aside0.mk (hbox); have n3_ := Aside0.mk ((by rw [hg]; exact (below_size (by exact HB.out)) : w.heap.size ≤ gb57002)); have n4_ := n3_; have n5_ := Aside0.mk ((by rw [hg]; exact Nat.ne_of_lt (blk_lt (g := gb57001) (o := .cells #[.slice A0_0 l0_0.length c0_0, .slice A0_1 l0_1.length c0_1, .int .i64 a0_2] 35 (0, 0)) BK57001.out) : gb57001 ≠ gb57002)); have n6_ := Aside0.mk n5_.out.symm; clear BK57001; clear HB; have BK57001 := n0_; have HB := n1_; have BK57002 := n2_; have GW57002 := n3_; have GE57002 := n4_; have NB57001_57002 := n5_; have NB57002_57001 := n6_; clear n0_ n1_ n2_ n3_ n4_ n5_ n6_; clear hb hbox hg))
 (try simp only [Act.put, List.setIfInBounds_toArray, List.set_cons_zero, List.set_cons_succ])
 go_cut [33] (fun v33 wc => ∃ (kq : Nat) (x33_3 : Bool), v33 = .bool x33_3 ∧ Aside0 (spec_TimesFor.j0 kq l2 x33_3 l0_0 l0_1 a0_2 l1_0 l1_1 = some (r1, r2)) ∧ Aside0 (kq ≤ k) ∧ Aside0 (wc.heap[gb57001]? = some (.cells #[(.slice A0_0 l0_0.length c0_0), (.slice A0_1 l0_1.length c0_1), .int .i64 a0_2] 35 (0, 0))) ∧ Aside0 (wc.heap[gb57002]? = some (.cells #[(.slice A1_0 l1_0.length c1_0), (.slice A1_1 l1_1.length c1_1)] 37 (0, 0))) ∧ Aside0 (Below w.heap.size w wc))
 case first =>
  have H := HC4.out
  clear HC4
  replace H := Option.bind_eq_some_iff.mp H
  obtain ⟨t57003, A70, H⟩ := H
  replace H : (if t57003 = true then (if (l2.length : Int) = (l0_0.length : Int) then ((spec_l12Plain.f k l0_0 l0_1 a0_2).bind fun t57004 => (spec_TimesFor.j0 k l2 (!t57004) l0_0 l0_1 a0_2 l1_0 l1_1)) else (spec_TimesFor.j0 k l2 true l0_0 l0_1 a0_2 l1_0 l1_1)) else (spec_TimesFor.j0 k l2 true l0_0 l0_1 a0_2 l1_0 l1_1)) = some (r1, r2) := H
  have A7 := Aside0.mk A70; clear A70
  by_cases c8 : t57003 = true
  ·subst c8
   have H1 : (if (l2.length : Int) = (l0_0.length : Int) then ((spec_l12Plain.f k l0_0 l0_1 a0_2).bind fun t57004 => (spec_TimesFor.j0 k l2 (!t57004) l0_0 l0_1 a0_2 l1_0 l1_1)) else (spec_TimesFor.j0 k l2 true l0_0 l0_1 a0_2 l1_0 l1_1)) = some (r1, r2) := by rw [if_pos rfl] at H; exact H
   clear H
   have H := H1
   clear H1
   by_cases c9 : (l2.length : Int) = (l0_0.length : Int)
   ·rw [if_pos c9] at H
    have c9b0 : ((l2.length : Int) == (l0_0.length : Int)) = true := beq_iff_eq.mpr c9
    have c9b1 : ((l2.length : Int) != (l0_0.length : Int)) = false := bne_eq_false_iff_eq.mpr c9
    have c9b2 : (l2.length == l0_0.length) = true := by first | simpa using c9 | (simp at c9 ⊢; omega)
    clear c9
    (first | rw [c9b0] | (simp only [i64_w, i32_w]; rw [c9b0]) | skip)
    replace H := Option.bind_eq_some_iff.mp H
    obtain ⟨t57004, A100, H⟩ := H
    replace H : (spec_TimesFor.j0 k l2 (!t57004) l0_0 l0_1 a0_2 l1_0 l1_1) = some (r1, r2) := H
    have A10 := Aside0.mk A100; clear A100
    have H' := Aside0.mk H
    clear H
    have hnb11 := NB57001_57002.out
    have hnc11 := NB57002_57001.out
    have hcz12_0 : w6.cell? ⟨gb57001, 0, none⟩ = some (.slice A0_0 l0_0.length c0_0) := (blk_cell BK57001.out 0).trans rfl
    have hcz12_1 : w6.cell? ⟨gb57001, 1, none⟩ = some (.slice A0_1 l0_1.length c0_1) := (blk_cell BK57001.out 1).trans rfl
    have hcz12_2 : w6.cell? ⟨gb57001, 2, none⟩ = some (.int .i64 a0_2) := (blk_cell BK57001.out 2).trans rfl
    have hcz13_0 : w6.cell? ⟨gb57002, 0, none⟩ = some (.slice A1_0 l1_0.length c1_0) := (blk_cell BK57002.out 0).trans rfl
    have hcz13_1 : w6.cell? ⟨gb57002, 1, none⟩ = some (.slice A1_1 l1_1.length c1_1) := (blk_cell BK57002.out 1).trans rfl
    go_wp2_with (first | ((with_reducible refine gate_callee (f := 17) rfl ?_); refine goesL_ (some 19) rfl rfl Try.func17 (by kernel_rfl) rfl #[.agg #[.slice A0_0 l0_0.length c0_0, .slice A0_1 l0_1.length c0_1, .int .i64 a0_2], .agg #[.slice A1_0 l1_0.length c1_0, .slice A1_1 l1_1.length c1_1]] rfl (by (try simp only [List.map_toArray, List.map_cons, List.map_nil]); first | done | rfl | (simp only [List.length_drop, List.length_take]; rfl)) ?_; (with_reducible refine (spec_ChoiceOk.calls k _ _ l0_0 _ _ l0_1 a0_2 _ _ l1_0 _ _ l1_1 true _ ?side1 ?side2 ?side3 ?side4 ?side5 ?side6 ?side7 ?side8 A7.out).mono ?_); (case side1 => exact (Kd.C_below HR0_0.out HB.out)); (case side2 => exact HC0_0.out); (case side3 => exact (Kd.C_below HR0_1.out HB.out)); (case side4 => exact HC0_1.out); (case side5 => exact (Kd.C_below HR1_0.out HB.out)); (case side6 => exact HC1_0.out); (case side7 => exact (Kd.C_below HR1_1.out HB.out)); (case side8 => exact HC1_1.out); rintro e w14 ⟨rfl, hb⟩; refine ⟨_, rfl, ?_⟩; have n0_ := Aside0.mk (blk_below (g := gb57001) (o := .cells #[.slice A0_0 l0_0.length c0_0, .slice A0_1 l0_1.length c0_1, .int .i64 a0_2] 35 (0, 0)) BK57001.out hb); have n1_ := Aside0.mk (blk_below (g := gb57002) (o := .cells #[.slice A1_0 l1_0.length c1_0, .slice A1_1 l1_1.length c1_1] 37 (0, 0)) BK57002.out hb); have n2_ := Aside0.mk (below_step (by exact HB.out) hb); clear BK57001; clear BK57002; clear HB; have BK57001 := n0_; have BK57002 := n1_; have HB := n2_; clear n0_ n1_ n2_; have hcz15_0 : w14.cell? ⟨gb57001, 0, none⟩ = some (.slice A0_0 l0_0.length c0_0) := (blk_cell BK57001.out 0).trans rfl; have hcz15_1 : w14.cell? ⟨gb57001, 1, none⟩ = some (.slice A0_1 l0_1.length c0_1) := (blk_cell BK57001.out 1).trans rfl; have hcz15_2 : w14.cell? ⟨gb57001, 2, none⟩ = some (.int .i64 a0_2) := (blk_cell BK57001.out 2).trans rfl) | (go_at_call 107; (with_reducible refine (spec_l12Plain.calls k _ _ l0_0 _ _ l0_1 a0_2 t57004 _ ?side1 ?side2 ?side3 ?side4 A10.out).mono ?_); (case side1 => exact (Kd.C_below HR0_0.out HB.out)); (case side2 => exact HC0_0.out); (case side3 => exact (Kd.C_below HR0_1.out HB.out)); (case side4 => exact HC0_1.out); rintro e w16 ⟨rfl, hb⟩; have n0_ := Aside0.mk (blk_below (g := gb57001) (o := .cells #[.slice A0_0 l0_0.length c0_0, .slice A0_1 l0_1.length c0_1, .int .i64 a0_2] 35 (0, 0)) BK57001.out hb); have n1_ := Aside0.mk (blk_below (g := gb57002) (o := .cells #[.slice A1_0 l1_0.length c1_0, .slice A1_1 l1_1.length c1_1] 37 (0, 0)) BK57002.out hb); have n2_ := Aside0.mk (below_step (by exact HB.out) hb); clear BK57001; clear BK57002; clear HB; have BK57001 := n0_; have BK57002 := n1_; have HB := n2_; clear n0_ n1_ n2_; (try clear hi)))
    go_meet
    case rel => exact ⟨_, (!t57004), (by first | rfl | (simp; done) | (simp [*]; done)), H', ⟨by first | omega | exact Nat.le_refl _⟩, ⟨by (with_reducible repeat (first | refine blk_drewN ?_ _ | refine blk_drew ?_ | refine blk_alloc ?_ _)); exact BK57001.out⟩, ⟨by (with_reducible repeat (first | refine blk_drewN ?_ _ | refine blk_drew ?_ | refine blk_alloc ?_ _)); exact BK57002.out⟩, ⟨by repeat (first | (with_reducible first | exact HB.out | apply below_alloc | apply pw_below_drewN | apply below_drew1 | refine below_set ?_ GE57001.out | refine below_set ?_ GE57002.out) | exact HB.out)⟩⟩
   ·rw [if_neg c9] at H
    have c9b0 : ((l2.length : Int) == (l0_0.length : Int)) = false := beq_eq_false_iff_ne.mpr c9
    have c9b1 : ((l2.length : Int) != (l0_0.length : Int)) = true := bne_iff_ne.mpr c9
    have c9b2 : (l2.length == l0_0.length) = false := by first | simpa using c9 | (simp at c9 ⊢; omega)
    (first | rw [c9b0] | (simp only [i64_w, i32_w]; rw [c9b0]) | skip)
    have H' := Aside0.mk H
    clear H
    have hnb17 := NB57001_57002.out
    have hnc17 := NB57002_57001.out
    have hcz18_0 : w6.cell? ⟨gb57001, 0, none⟩ = some (.slice A0_0 l0_0.length c0_0) := (blk_cell BK57001.out 0).trans rfl
    have hcz18_1 : w6.cell? ⟨gb57001, 1, none⟩ = some (.slice A0_1 l0_1.length c0_1) := (blk_cell BK57001.out 1).trans rfl
    have hcz18_2 : w6.cell? ⟨gb57001, 2, none⟩ = some (.int .i64 a0_2) := (blk_cell BK57001.out 2).trans rfl
    have hcz19_0 : w6.cell? ⟨gb57002, 0, none⟩ = some (.slice A1_0 l1_0.length c1_0) := (blk_cell BK57002.out 0).trans rfl
    have hcz19_1 : w6.cell? ⟨gb57002, 1, none⟩ = some (.slice A1_1 l1_1.length c1_1) := (blk_cell BK57002.out 1).trans rfl
    go_wp2_with (first | ((with_reducible refine gate_callee (f := 17) rfl ?_); refine goesL_ (some 19) rfl rfl Try.func17 (by kernel_rfl) rfl #[.agg #[.slice A0_0 l0_0.length c0_0, .slice A0_1 l0_1.length c0_1, .int .i64 a0_2], .agg #[.slice A1_0 l1_0.length c1_0, .slice A1_1 l1_1.length c1_1]] rfl (by (try simp only [List.map_toArray, List.map_cons, List.map_nil]); first | done | rfl | (simp only [List.length_drop, List.length_take]; rfl)) ?_; (with_reducible refine (spec_ChoiceOk.calls k _ _ l0_0 _ _ l0_1 a0_2 _ _ l1_0 _ _ l1_1 true _ ?side1 ?side2 ?side3 ?side4 ?side5 ?side6 ?side7 ?side8 A7.out).mono ?_); (case side1 => exact (Kd.C_below HR0_0.out HB.out)); (case side2 => exact HC0_0.out); (case side3 => exact (Kd.C_below HR0_1.out HB.out)); (case side4 => exact HC0_1.out); (case side5 => exact (Kd.C_below HR1_0.out HB.out)); (case side6 => exact HC1_0.out); (case side7 => exact (Kd.C_below HR1_1.out HB.out)); (case side8 => exact HC1_1.out); rintro e w20 ⟨rfl, hb⟩; refine ⟨_, rfl, ?_⟩; have n0_ := Aside0.mk (blk_below (g := gb57001) (o := .cells #[.slice A0_0 l0_0.length c0_0, .slice A0_1 l0_1.length c0_1, .int .i64 a0_2] 35 (0, 0)) BK57001.out hb); have n1_ := Aside0.mk (blk_below (g := gb57002) (o := .cells #[.slice A1_0 l1_0.length c1_0, .slice A1_1 l1_1.length c1_1] 37 (0, 0)) BK57002.out hb); have n2_ := Aside0.mk (below_step (by exact HB.out) hb); clear BK57001; clear BK57002; clear HB; have BK57001 := n0_; have BK57002 := n1_; have HB := n2_; clear n0_ n1_ n2_; have hcz21_0 : w20.cell? ⟨gb57001, 0, none⟩ = some (.slice A0_0 l0_0.length c0_0) := (blk_cell BK57001.out 0).trans rfl; have hcz21_1 : w20.cell? ⟨gb57001, 1, none⟩ = some (.slice A0_1 l0_1.length c0_1) := (blk_cell BK57001.out 1).trans rfl; have hcz21_2 : w20.cell? ⟨gb57001, 2, none⟩ = some (.int .i64 a0_2) := (blk_cell BK57001.out 2).trans rfl))
    go_meet
    case rel => exact ⟨_, (true), (by first | rfl | (simp; done) | (simp [*]; done)), H', ⟨by first | omega | exact Nat.le_refl _⟩, ⟨by (with_reducible repeat (first | refine blk_drewN ?_ _ | refine blk_drew ?_ | refine blk_alloc ?_ _)); exact BK57001.out⟩, ⟨by (with_reducible repeat (first | refine blk_drewN ?_ _ | refine blk_drew ?_ | refine blk_alloc ?_ _)); exact BK57002.out⟩, ⟨by repeat (first | (with_reducible first | exact HB.out | apply below_alloc | apply pw_below_drewN | apply below_drew1 | refine below_set ?_ GE57001.out | refine below_set ?_ GE57002.out) | exact HB.out)⟩⟩
  ·replace c8 := Bool.eq_false_iff.mpr c8
   subst c8
   have H1 : (spec_TimesFor.j0 k l2 true l0_0 l0_1 a0_2 l1_0 l1_1) = some (r1, r2) := by rw [if_neg (show ¬ (false = true) by decide)] at H; exact H
   clear H
   have H := H1
   clear H1
   have H' := Aside0.mk H
   clear H
   have hnb22 := NB57001_57002.out
   have hnc22 := NB57002_57001.out
   have hcz23_0 : w6.cell? ⟨gb57001, 0, none⟩ = some (.slice A0_0 l0_0.length c0_0) := (blk_cell BK57001.out 0).trans rfl
   have hcz23_1 : w6.cell? ⟨gb57001, 1, none⟩ = some (.slice A0_1 l0_1.length c0_1) := (blk_cell BK57001.out 1).trans rfl
   have hcz23_2 : w6.cell? ⟨gb57001, 2, none⟩ = some (.int .i64 a0_2) := (blk_cell BK57001.out 2).trans rfl
   have hcz24_0 : w6.cell? ⟨gb57002, 0, none⟩ = some (.slice A1_0 l1_0.length c1_0) := (blk_cell BK57002.out 0).trans rfl
   have hcz24_1 : w6.cell? ⟨gb57002, 1, none⟩ = some (.slice A1_1 l1_1.length c1_1) := (blk_cell BK57002.out 1).trans rfl
   go_wp2_with (first | ((with_reducible refine gate_callee (f := 17) rfl ?_); refine goesL_ (some 19) rfl rfl Try.func17 (by kernel_rfl) rfl #[.agg #[.slice A0_0 l0_0.length c0_0, .slice A0_1 l0_1.length c0_1, .int .i64 a0_2], .agg #[.slice A1_0 l1_0.length c1_0, .slice A1_1 l1_1.length c1_1]] rfl (by (try simp only [List.map_toArray, List.map_cons, List.map_nil]); first | done | rfl | (simp only [List.length_drop, List.length_take]; rfl)) ?_; (with_reducible refine (spec_ChoiceOk.calls k _ _ l0_0 _ _ l0_1 a0_2 _ _ l1_0 _ _ l1_1 false _ ?side1 ?side2 ?side3 ?side4 ?side5 ?side6 ?side7 ?side8 A7.out).mono ?_); (case side1 => exact (Kd.C_below HR0_0.out HB.out)); (case side2 => exact HC0_0.out); (case side3 => exact (Kd.C_below HR0_1.out HB.out)); (case side4 => exact HC0_1.out); (case side5 => exact (Kd.C_below HR1_0.out HB.out)); (case side6 => exact HC1_0.out); (case side7 => exact (Kd.C_below HR1_1.out HB.out)); (case side8 => exact HC1_1.out); rintro e w25 ⟨rfl, hb⟩; refine ⟨_, rfl, ?_⟩; have n0_ := Aside0.mk (blk_below (g := gb57001) (o := .cells #[.slice A0_0 l0_0.length c0_0, .slice A0_1 l0_1.length c0_1, .int .i64 a0_2] 35 (0, 0)) BK57001.out hb); have n1_ := Aside0.mk (blk_below (g := gb57002) (o := .cells #[.slice A1_0 l1_0.length c1_0, .slice A1_1 l1_1.length c1_1] 37 (0, 0)) BK57002.out hb); have n2_ := Aside0.mk (below_step (by exact HB.out) hb); clear BK57001; clear BK57002; clear HB; have BK57001 := n0_; have BK57002 := n1_; have HB := n2_; clear n0_ n1_ n2_; (try clear hi)))
   go_meet
   case rel => exact ⟨_, (true), (by first | rfl | (simp; done) | (simp [*]; done)), H', ⟨by first | omega | exact Nat.le_refl _⟩, ⟨by (with_reducible repeat (first | refine blk_drewN ?_ _ | refine blk_drew ?_ | refine blk_alloc ?_ _)); exact BK57001.out⟩, ⟨by (with_reducible repeat (first | refine blk_drewN ?_ _ | refine blk_drew ?_ | refine blk_alloc ?_ _)); exact BK57002.out⟩, ⟨by repeat (first | (with_reducible first | exact HB.out | apply below_alloc | apply pw_below_drewN | apply below_drew1 | refine below_set ?_ GE57001.out | refine below_set ?_ GE57002.out) | exact HB.out)⟩⟩
 case rest =>
  clear HC4
  try clear c1
  try clear c2
  try clear p2
  try clear c5
  try clear c8
  try clear c9
  try clear c9b0
  try clear c9b1
  try clear c9b2
  try clear c11
  try clear c17
  try clear c22
  obtain ⟨kq, x33_3, rfl, HA, HJ3, BK57001, BK57002, HB⟩ := hcut
  cases kq with
  | zero => exact absurd HA.out (by simp [spec_TimesFor.j0])
  | succ kj3 =>
   have H := HA.out
   clear HA
   simp only [spec_TimesFor.j0] at H
   by_cases c26 : x33_3 = true
   ·subst c26
    have H1 : (some (([] : List Int), false)) = some (r1, r2) := by rw [if_pos rfl] at H; exact H
    clear H
    have H := H1
    clear H1
    simp only [Option.some.injEq, Prod.mk.injEq] at H
    obtain ⟨rfl, rfl⟩ := H
    go_wp2
    go_ret2
    exact ⟨_, by first | rfl | (simp [errW_none, errW_some] <;> rfl) | (simp [*, errW_none, errW_some] <;> rfl), by first | exact Kd.R_nil _ _ _ _ _ | exact Kd.N_nil _ _ _ _ _ | exact Kd.V_nil _ _ _ _ _ | exact Kd.Q_nil _ _ _ _ _ | exact Kd.S_nil _ _ _ _ _, by repeat (first | (with_reducible first | exact HB.out | apply below_alloc | apply pw_below_drewN | apply below_drew1 | refine below_set ?_ GE57001.out | refine below_set ?_ GE57002.out) | exact HB.out)⟩
   ·replace c26 := Bool.eq_false_iff.mpr c26
    subst c26
    have H1 : (spec_TimesFor.l0 kj3 l2 (([] : List Int)) (l0_0.length : Int) 0 l0_0 l0_1 a0_2 l1_0 l1_1) = some (r1, r2) := by rw [if_neg (show ¬ (false = true) by decide)] at H; exact H
    clear H
    have H := H1
    clear H1
    obtain ⟨y57005, hy57005⟩ : ∃ y_ : List Int, y_ = (([] : List Int)) := ⟨_, rfl⟩
    replace H : (spec_TimesFor.l0 kj3 l2 y57005 (l0_0.length : Int) 0 l0_0 l0_1 a0_2 l1_0 l1_1) = some (r1, r2) := by first | (rw [hy57005]; with_reducible exact H) | (have H2_ := (Option.bind_some _ _).symm.trans H; rw [hy57005]; with_reducible exact H2_) | (have H2_ := (Option.bind_some _ _).symm.trans H; with_reducible exact H2_) | with_reducible exact H | (rw [hy57005]; exact H) | exact H
    have Ny57005 := Aside0.mk hy57005; clear hy57005
    have H' := Aside0.mk H
    clear H
    go_wp2_with (first | ((with_reducible refine gate_dst (N := 34) rfl ?_); refine Kd.R_lit (Kd.int .i64) _ 3 ?hg (N := 34) ?hd (xs := ([] : List Int)) (inner := []) (ok := fun _ => True) (okp := fun _ => True) ?hr ?hp (fun _ hk => hk) trivial (Below.refl _ _) (Nat.le_refl _) (by simp) ?_; (case hd => rfl); (case hg => rfl); (case hr => first | (go_simp; done) | (go_simp; rfl)); (case hp => exact (Reps.none _ _)); intro v57006 w27 ho28 hb hg_ hnew_; clear hg_ hnew_; (first | rw [← Ny57005.out] at ho28 | (simp only [Int.reduceToNat] at ho28; rw [← Ny57005.out] at ho28)); have n0_ := Aside0.mk (Kd.R_lower ho28 (below_size (by exact HB.out))); have n1_ := Aside0.mk (blk_below (g := gb57001) (o := .cells #[.slice A0_0 l0_0.length c0_0, .slice A0_1 l0_1.length c0_1, .int .i64 a0_2] 35 (0, 0)) BK57001.out hb); have n2_ := Aside0.mk (blk_below (g := gb57002) (o := .cells #[.slice A1_0 l1_0.length c1_0, .slice A1_1 l1_1.length c1_1] 37 (0, 0)) BK57002.out hb); have n3_ := Aside0.mk (below_step (by exact HB.out) hb); clear BK57001; clear BK57002; clear HB; have HO57007 := n0_; have BK57001 := n1_; have BK57002 := n2_; have HB := n3_; clear n0_ n1_ n2_ n3_; clear hb ho28; have hnb29 := NB57001_57002.out; have hnc29 := NB57002_57001.out; have hcz30_0 : w27.cell? ⟨gb57001, 0, none⟩ = some (.slice A0_0 l0_0.length c0_0) := (blk_cell BK57001.out 0).trans rfl; have hcz30_1 : w27.cell? ⟨gb57001, 1, none⟩ = some (.slice A0_1 l0_1.length c0_1) := (blk_cell BK57001.out 1).trans rfl; have hcz30_2 : w27.cell? ⟨gb57001, 2, none⟩ = some (.int .i64 a0_2) := (blk_cell BK57001.out 2).trans rfl))
    go_loopg [8, 38] kj3 (fun kq v8 v38 w' => ∃ (x8_2 : List Int) (x38_2 : Int), v38 = .int .i64 x38_2 ∧ Aside0 (spec_TimesFor.l0 kq l2 x8_2 (l0_0.length : Int) x38_2 l0_0 l0_1 a0_2 l1_0 l1_1 = some (r1, r2)) ∧ Aside0 (kq ≤ kj3) ∧ Aside0 (Kd.R (Kd.int .i64) 3 w' w.heap.size (fun _ => True) v8 x8_2) ∧ Aside0 (w'.heap[gb57001]? = some (.cells #[(.slice A0_0 l0_0.length c0_0), (.slice A0_1 l0_1.length c0_1), .int .i64 a0_2] 35 (0, 0))) ∧ Aside0 (w'.heap[gb57002]? = some (.cells #[(.slice A1_0 l1_0.length c1_0), (.slice A1_1 l1_1.length c1_1)] 37 (0, 0))) ∧ Aside0 (Below w.heap.size w w'))
    case atStart => exact ⟨(y57005), (0), (by first | rfl | (simp; done) | (simp [*]; done)), H', ⟨Nat.le_refl _⟩, ⟨by (with_reducible repeat (first | apply Kd.R_alloc | apply Kd.R_drewN | apply Kd.R_drew)); exact HO57007.out⟩, ⟨by (with_reducible repeat (first | refine blk_drewN ?_ _ | refine blk_drew ?_ | refine blk_alloc ?_ _)); exact BK57001.out⟩, ⟨by (with_reducible repeat (first | refine blk_drewN ?_ _ | refine blk_drew ?_ | refine blk_alloc ?_ _)); exact BK57002.out⟩, ⟨by repeat (first | (with_reducible first | exact HB.out | apply below_alloc | apply pw_below_drewN | apply below_drew1 | refine below_set ?_ GE57001.out | refine below_set ?_ GE57002.out) | exact HB.out)⟩⟩
    case round =>
     clear H'
     try clear c1
     try clear c2
     try clear p2
     try clear c5
     try clear c8
     try clear c9
     try clear c9b0
     try clear c9b1
     try clear c9b2
     try clear c11
     try clear c17
     try clear c22
     try clear c26
     try clear c29
     try clear p2
     obtain ⟨x8_2, x38_2, rfl, HA, HK2, HO_8, BK57001, BK57002, HB⟩ := hrel
     cases gk with
     | zero => exact absurd HA.out (by simp [spec_TimesFor.l0])
     | succ k2 =>
      have H := HA.out
      clear HA
      simp only [spec_TimesFor.l0] at H
      by_cases c31 : x38_2 < (l0_0.length : Int)
      ·rw [if_pos c31] at H
       have c31b0 : decide (x38_2 < (l0_0.length : Int)) = true := decide_eq_true c31
       clear c31
       replace H := Option.bind_eq_some_iff.mp H
       obtain ⟨⟨t57008, t57009, t57010, t57011⟩, A320, H⟩ := H
       replace H : (if 0 ≤ t57008 then (if t57008 < (l2.length : Int) then ((spec_l12Chain.f k2 l0_0 l0_1 a0_2 x38_2).bind fun t57013 => (spec_TimesFor.l1 k2 l2 x8_2 (rd l2 t57008) (l0_0.length : Int) x38_2 t57013 (t57013.length : Int) 0 l0_0 l0_1 a0_2 l1_0 l1_1)) else (none)) else (none)) = some (r1, r2) := H
       have A32 := Aside0.mk A320; clear A320
       by_cases c33 : 0 ≤ t57008
       ·rw [if_pos c33] at H
        have c33b0 : decide (0 ≤ t57008) = true := decide_eq_true c33
        clear c33
        by_cases c34 : t57008 < (l2.length : Int)
        ·rw [if_pos c34] at H
         have c34b0 : decide (t57008 < (l2.length : Int)) = true := decide_eq_true c34
         clear c34
         replace H := Option.bind_eq_some_iff.mp H
         obtain ⟨t57013, A350, H⟩ := H
         replace H : (spec_TimesFor.l1 k2 l2 x8_2 (rd l2 t57008) (l0_0.length : Int) x38_2 t57013 (t57013.length : Int) 0 l0_0 l0_1 a0_2 l1_0 l1_1) = some (r1, r2) := H
         have A35 := Aside0.mk A350; clear A350
         have H' := Aside0.mk H
         clear H
         have hnb36 := NB57001_57002.out
         have hnc36 := NB57002_57001.out
         have hcz37_0 : wr.cell? ⟨gb57001, 0, none⟩ = some (.slice A0_0 l0_0.length c0_0) := (blk_cell BK57001.out 0).trans rfl
         have hcz37_1 : wr.cell? ⟨gb57001, 1, none⟩ = some (.slice A0_1 l0_1.length c0_1) := (blk_cell BK57001.out 1).trans rfl
         have hcz37_2 : wr.cell? ⟨gb57001, 2, none⟩ = some (.int .i64 a0_2) := (blk_cell BK57001.out 2).trans rfl
         go_wp2_with (first | ((with_reducible refine gate_callee (f := 108) rfl ?_); refine goesL_ (some 44) rfl rfl Try.func108 (by kernel_rfl) rfl #[.agg #[.slice A0_0 l0_0.length c0_0, .slice A0_1 l0_1.length c0_1, .int .i64 a0_2], .int .i64 x38_2] rfl (by (try simp only [List.map_toArray, List.map_cons, List.map_nil]); first | done | rfl | (simp only [List.length_drop, List.length_take]; rfl)) ?_; (with_reducible refine (spec_l12Base.calls k2 _ _ l0_0 _ _ l0_1 a0_2 x38_2 t57008 t57009 t57010 t57011 _ ?side1 ?side2 ?side3 ?side4 A32.out).mono ?_); (case side1 => exact (Kd.C_below HR0_0.out HB.out)); (case side2 => exact HC0_0.out); (case side3 => exact (Kd.C_below HR0_1.out HB.out)); (case side4 => exact HC0_1.out); rintro e w38 ⟨rfl, hb⟩; refine ⟨_, rfl, ?_⟩; have n0_ := Aside0.mk (Kd.R_below (by exact HO_8.out) hb); have n1_ := Aside0.mk (blk_below (g := gb57001) (o := .cells #[.slice A0_0 l0_0.length c0_0, .slice A0_1 l0_1.length c0_1, .int .i64 a0_2] 35 (0, 0)) BK57001.out hb); have n2_ := Aside0.mk (blk_below (g := gb57002) (o := .cells #[.slice A1_0 l1_0.length c1_0, .slice A1_1 l1_1.length c1_1] 37 (0, 0)) BK57002.out hb); have n3_ := Aside0.mk (below_step (by exact HB.out) hb); clear HO_8; clear BK57001; clear BK57002; clear HB; have HO_8 := n0_; have BK57001 := n1_; have BK57002 := n2_; have HB := n3_; clear n0_ n1_ n2_ n3_; have p57012 : 0 ≤ (t57008 : Int) := of_decide_eq_true (by with_reducible assumption); have q57012 : t57008 < (l2.length : Int) := of_decide_eq_true (by with_reducible assumption); obtain ⟨ad57012, e57012, hx57012_0⟩ := Kd.at_int HR2.out t57008 p57012 q57012; cases e57012; replace hx57012_0 := (HB.out.cell (World.block_lt_of_cell? w _ hx57012_0)).trans hx57012_0; replace p57012 := eq_true p57012; replace q57012 := eq_true q57012; have hcz39_0 : w38.cell? ⟨gb57001, 0, none⟩ = some (.slice A0_0 l0_0.length c0_0) := (blk_cell BK57001.out 0).trans rfl; have hcz39_1 : w38.cell? ⟨gb57001, 1, none⟩ = some (.slice A0_1 l0_1.length c0_1) := (blk_cell BK57001.out 1).trans rfl; have hcz39_2 : w38.cell? ⟨gb57001, 2, none⟩ = some (.int .i64 a0_2) := (blk_cell BK57001.out 2).trans rfl) | ((with_reducible refine gate_callee (f := 109) rfl ?_); refine goesL_ (some 55) rfl rfl Try.func109 (by kernel_rfl) rfl #[.agg #[.slice A0_0 l0_0.length c0_0, .slice A0_1 l0_1.length c0_1, .int .i64 a0_2], .int .i64 x38_2] rfl (by (try simp only [List.map_toArray, List.map_cons, List.map_nil]); first | done | rfl | (simp only [List.length_drop, List.length_take]; rfl)) ?_; (with_reducible refine (spec_l12Chain.calls k2 _ _ l0_0 _ _ l0_1 a0_2 x38_2 t57013 _ ?side1 ?side2 ?side3 ?side4 A35.out).mono ?_); (case side1 => exact (Kd.C_below HR0_0.out HB.out)); (case side2 => exact HC0_0.out); (case side3 => exact (Kd.C_below HR0_1.out HB.out)); (case side4 => exact HC0_1.out); rintro e w40 ⟨v57014, rfl, ho0, hb⟩; refine ⟨_, rfl, ?_⟩; have n0_ := Aside0.mk (Kd.R_elder' (by exact HO_8.out) (Kd.R_base ho0) hb); have n1_ := Aside0.mk (Kd.R_lower (Kd.R_new' ho0 (Kd.R_lt (by exact HO_8.out))) (below_size (by exact HB.out))); have n2_ := Aside0.mk (blk_below (g := gb57001) (o := .cells #[.slice A0_0 l0_0.length c0_0, .slice A0_1 l0_1.length c0_1, .int .i64 a0_2] 35 (0, 0)) BK57001.out hb); have n3_ := Aside0.mk (blk_below (g := gb57002) (o := .cells #[.slice A1_0 l1_0.length c1_0, .slice A1_1 l1_1.length c1_1] 37 (0, 0)) BK57002.out hb); have n4_ := Aside0.mk (below_step (by exact HB.out) hb); clear HO_8; clear BK57001; clear BK57002; clear HB; have HO_8 := n0_; have HO57015 := n1_; have BK57001 := n2_; have BK57002 := n3_; have HB := n4_; clear n0_ n1_ n2_ n3_ n4_; obtain ⟨Ao41, co41, eo41⟩ := Kd.R_slice HO57015.out; subst eo41))
         go_loopg [14, 57] k2 (fun kq v14 v57 w' => ∃ (x14_3 : Int) (x57_3 : Int), v14 = .int .i64 x14_3 ∧ v57 = .int .i64 x57_3 ∧ Aside0 (spec_TimesFor.l1 kq l2 x8_2 x14_3 (l0_0.length : Int) x38_2 t57013 (t57013.length : Int) x57_3 l0_0 l0_1 a0_2 l1_0 l1_1 = some (r1, r2)) ∧ Aside0 (kq ≤ k2) ∧ Aside0 (Kd.R (Kd.int .i64) 3 w' w.heap.size (fun k_ => some k_ ≠ ((.slice Ao41 t57013.length co41) : Value).ownBlock) u8 x8_2) ∧ Aside0 (Kd.R (Kd.int .i64) 3 w' w.heap.size (fun k_ => some k_ ≠ (u8 : Value).ownBlock) (.slice Ao41 t57013.length co41) t57013) ∧ Aside0 (w'.heap[gb57001]? = some (.cells #[(.slice A0_0 l0_0.length c0_0), (.slice A0_1 l0_1.length c0_1), .int .i64 a0_2] 35 (0, 0))) ∧ Aside0 (w'.heap[gb57002]? = some (.cells #[(.slice A1_0 l1_0.length c1_0), (.slice A1_1 l1_1.length c1_1)] 37 (0, 0))) ∧ Aside0 (Below w.heap.size w w'))
         case atStart => exact ⟨(rd l2 t57008), (0), (by first | rfl | (simp; done) | (simp [*]; done)), (by first | rfl | (simp; done) | (simp [*]; done)), H', ⟨Nat.le_refl _⟩, ⟨by (with_reducible repeat (first | apply Kd.R_alloc | apply Kd.R_drewN | apply Kd.R_drew)); exact Kd.R_mono HO_8.out (fun _ hk => hk.2)⟩, ⟨by (with_reducible repeat (first | apply Kd.R_alloc | apply Kd.R_drewN | apply Kd.R_drew)); exact Kd.R_mono HO57015.out (fun _ hk => hk.2)⟩, ⟨by (with_reducible repeat (first | refine blk_drewN ?_ _ | refine blk_drew ?_ | refine blk_alloc ?_ _)); exact BK57001.out⟩, ⟨by (with_reducible repeat (first | refine blk_drewN ?_ _ | refine blk_drew ?_ | refine blk_alloc ?_ _)); exact BK57002.out⟩, ⟨by repeat (first | (with_reducible first | exact HB.out | apply below_alloc | apply pw_below_drewN | apply below_drew1 | refine below_set ?_ GE57001.out | refine below_set ?_ GE57002.out) | exact HB.out)⟩⟩
         case round =>
          clear H'
          try clear c1
          try clear c2
          try clear p2
          try clear c3
          try clear c5
          try clear p5
          try clear q5
          try clear c8
          try clear c9
          try clear c9b0
          try clear c9b1
          try clear c9b2
          try clear c10
          try clear c11
          try clear c17
          try clear c22
          try clear c26
          try clear c29
          try clear c31
          try clear c31b0
          try clear c33
          try clear c33b0
          try clear c34
          try clear c34b0
          try clear c36
          try clear p2
          try clear p57012
          try clear q57012
          obtain ⟨x14_3, x57_3, rfl, rfl, HA, HK3, HO_8, HO_55, BK57001, BK57002, HB⟩ := hrel
          cases gk with
          | zero => exact absurd HA.out (by simp [spec_TimesFor.l1])
          | succ k3 =>
           have H := HA.out
           clear HA
           simp only [spec_TimesFor.l1] at H
           by_cases c42 : x57_3 < (t57013.length : Int)
           ·rw [if_pos c42] at H
            have c42b0 : decide (x57_3 < (t57013.length : Int)) = true := decide_eq_true c42
            clear c42
            by_cases c43 : 0 ≤ x57_3
            ·rw [if_pos c43] at H
             have c43b0 : decide (0 ≤ x57_3) = true := decide_eq_true c43
             clear c43
             by_cases c44 : x57_3 < (t57013.length : Int)
             ·rw [if_pos c44] at H
              have c44b0 : decide (x57_3 < (t57013.length : Int)) = true := decide_eq_true c44
              clear c44
              replace H := Option.bind_eq_some_iff.mp H
              obtain ⟨t57017, A450, H⟩ := H
              replace H : (spec_TimesFor.l1 k3 l2 x8_2 (wrap64 (x14_3 + t57017)) (l0_0.length : Int) x38_2 t57013 (t57013.length : Int) (wrap64 (x57_3 + 1)) l0_0 l0_1 a0_2 l1_0 l1_1) = some (r1, r2) := H
              have A45 := Aside0.mk A450; clear A450
              have H' := Aside0.mk H
              clear H
              have p57016 : 0 ≤ (x57_3 : Int) := of_decide_eq_true (by with_reducible assumption)
              have q57016 : x57_3 < (t57013.length : Int) := of_decide_eq_true (by with_reducible assumption)
              obtain ⟨ad57016, e57016, hx57016_0⟩ := Kd.at_int (Kd.R_reads' HO_55.out).2.2 x57_3 p57016 q57016
              cases e57016
              replace p57016 := eq_true p57016
              replace q57016 := eq_true q57016
              have hnb46 := NB57001_57002.out
              have hnc46 := NB57002_57001.out
              have hcz47_0 : wr.cell? ⟨gb57001, 0, none⟩ = some (.slice A0_0 l0_0.length c0_0) := (blk_cell BK57001.out 0).trans rfl
              have hcz47_1 : wr.cell? ⟨gb57001, 1, none⟩ = some (.slice A0_1 l0_1.length c0_1) := (blk_cell BK57001.out 1).trans rfl
              have hcz47_2 : wr.cell? ⟨gb57001, 2, none⟩ = some (.int .i64 a0_2) := (blk_cell BK57001.out 2).trans rfl
              have hcz48_0 : wr.cell? ⟨gb57002, 0, none⟩ = some (.slice A1_0 l1_0.length c1_0) := (blk_cell BK57002.out 0).trans rfl
              have hcz48_1 : wr.cell? ⟨gb57002, 1, none⟩ = some (.slice A1_1 l1_1.length c1_1) := (blk_cell BK57002.out 1).trans rfl
              go_wp2_with (first | ((with_reducible refine gate_callee (f := 110) rfl ?_); refine goesL_ (some 65) rfl rfl Try.func110 (by kernel_rfl) rfl #[.agg #[.slice A0_0 l0_0.length c0_0, .slice A0_1 l0_1.length c0_1, .int .i64 a0_2], .agg #[.slice A1_0 l1_0.length c1_0, .slice A1_1 l1_1.length c1_1], .int .i64 (rd t57013 x57_3)] rfl (by (try simp only [List.map_toArray, List.map_cons, List.map_nil]); first | done | rfl | (simp only [List.length_drop, List.length_take]; rfl)) ?_; (with_reducible refine (spec_l10Length.calls k3 _ _ l0_0 _ _ l0_1 a0_2 _ _ l1_0 _ _ l1_1 (rd t57013 x57_3) t57017 _ ?side1 ?side2 ?side3 ?side4 ?side5 ?side6 ?side7 ?side8 A45.out).mono ?_); (case side1 => exact (Kd.C_below HR0_0.out HB.out)); (case side2 => exact HC0_0.out); (case side3 => exact (Kd.C_below HR0_1.out HB.out)); (case side4 => exact HC0_1.out); (case side5 => exact (Kd.C_below HR1_0.out HB.out)); (case side6 => exact HC1_0.out); (case side7 => exact (Kd.C_below HR1_1.out HB.out)); (case side8 => exact HC1_1.out); rintro e w49 ⟨rfl, hb⟩; refine ⟨_, rfl, ?_⟩; have n0_ := Aside0.mk (Kd.R_below (by exact HO_8.out) hb); have n1_ := Aside0.mk (Kd.R_below (by exact HO_55.out) hb); have n2_ := Aside0.mk (blk_below (g := gb57001) (o := .cells #[.slice A0_0 l0_0.length c0_0, .slice A0_1 l0_1.length c0_1, .int .i64 a0_2] 35 (0, 0)) BK57001.out hb); have n3_ := Aside0.mk (blk_below (g := gb57002) (o := .cells #[.slice A1_0 l1_0.length c1_0, .slice A1_1 l1_1.length c1_1] 37 (0, 0)) BK57002.out hb); have n4_ := Aside0.mk (below_step (by exact HB.out) hb); clear HO_8; clear HO_55; clear BK57001; clear BK57002; clear HB; have HO_8 := n0_; have HO_55 := n1_; have BK57001 := n2_; have BK57002 := n3_; have HB := n4_; clear n0_ n1_ n2_ n3_ n4_; (try clear hi)))
              go_roundg k3
              case measure => have := HJ3.out; have := HK2.out; have := HK3.out; omega
              case rel => exact ⟨(wrap64 (x14_3 + t57017)), (wrap64 (x57_3 + 1)), (by first | rfl | (simp; done) | (simp [*]; done)), (by first | rfl | (simp; done) | (simp [*]; done)), H', ⟨by have := HJ3.out; have := HK2.out; have := HK3.out; omega⟩, ⟨by (with_reducible repeat (first | apply Kd.R_alloc | apply Kd.R_drewN | apply Kd.R_drew)); exact HO_8.out⟩, ⟨by (with_reducible repeat (first | apply Kd.R_alloc | apply Kd.R_drewN | apply Kd.R_drew)); exact HO_55.out⟩, ⟨by (with_reducible repeat (first | refine blk_drewN ?_ _ | refine blk_drew ?_ | refine blk_alloc ?_ _)); exact BK57001.out⟩, ⟨by (with_reducible repeat (first | refine blk_drewN ?_ _ | refine blk_drew ?_ | refine blk_alloc ?_ _)); exact BK57002.out⟩, ⟨by repeat (first | (with_reducible first | exact HB.out | apply below_alloc | apply pw_below_drewN | apply below_drew1 | refine below_set ?_ GE57001.out | refine below_set ?_ GE57002.out) | exact HB.out)⟩⟩
             ·rw [if_neg c44] at H
              exact absurd H (by simp)
            ·rw [if_neg c43] at H
             exact absurd H (by simp)
           ·rw [if_neg c42] at H
            have c42b0 : decide (x57_3 < (t57013.length : Int)) = false := decide_eq_false c42
            clear c42
            by_cases c50 : x8_2.length < 17592186044416
            ·rw [if_pos c50] at H
             have LMc50 := Aside0.mk c50; clear c50
             obtain ⟨y57018, hy57018⟩ : ∃ y_ : List Int, y_ = (x8_2 ++ [x14_3]) := ⟨_, rfl⟩
             replace H : (spec_TimesFor.l0 k3 l2 y57018 (l0_0.length : Int) (wrap64 (x38_2 + 1)) l0_0 l0_1 a0_2 l1_0 l1_1) = some (r1, r2) := by first | (rw [hy57018]; with_reducible exact H) | (have H2_ := (Option.bind_some _ _).symm.trans H; rw [hy57018]; with_reducible exact H2_) | (have H2_ := (Option.bind_some _ _).symm.trans H; with_reducible exact H2_) | with_reducible exact H | (rw [hy57018]; exact H) | exact H
             have Ny57018 := Aside0.mk hy57018; clear hy57018
             have H' := Aside0.mk H
             clear H
             go_wp2_with (first | ((with_reducible refine gate_builtin (b := .append) (xs := #[.tmp 68, .tmp 70]) rfl ?_); at_builtin; refine Kd.R_append (Kd.int .i64) (w0 := w) w.heap.size rfl (.tmp 68) (.tmp 70) 26 3 (.int .i64 0) 8 rfl Try.underlying26 info3 rfl (by decide) (by omega) u8 x8_2 x14_3 [.int .i64 x14_3] (fun k_ => some k_ ≠ (.slice Ao41 t57013.length co41 : Value).ownBlock) (fun _ => False) rfl rfl ?aP (fun _ hk => hk.elim) ?aF ?aO ?aB ?aS ?aL ?_; (case aP => exact rfl); (case aB => exact (by exact HB.out)); (case aF => exact (fun k_ hk => Kd.fresh' (Kd.R_lt (by exact HO_55.out)) k_ hk)); (case aO => exact (by exact HO_8.out)); (case aS => exact (below_size (by exact HB.out))); (case aL => have := LMc50.out; omega); intro v57019 w51 ho hb hg hat; rw [← Ny57018.out] at ho; have n0_ := Aside0.mk (Kd.R_after (ok := (fun _ => True)) (by (with_reducible repeat (first | apply Kd.R_alloc | apply Kd.R_drewN | apply Kd.R_drew)); exact Kd.R_mono HO_55.out (fun _ hk => ⟨trivial, hk⟩)) hg hat); have n1_ := Aside0.mk (blk_grown (g := gb57001) (o := .cells #[.slice A0_0 l0_0.length c0_0, .slice A0_1 l0_1.length c0_1, .int .i64 a0_2] 35 (0, 0)) BK57001.out hg (Kd.R_ne HO_8.out BK57001.out (by decide))); have n2_ := Aside0.mk (blk_grown (g := gb57002) (o := .cells #[.slice A1_0 l1_0.length c1_0, .slice A1_1 l1_1.length c1_1] 37 (0, 0)) BK57002.out hg (Kd.R_ne HO_8.out BK57002.out (by decide))); have n3_ := Aside0.mk (hb); have n4_ := Aside0.mk (ho); clear HO_55; clear BK57001; clear BK57002; clear HB; clear HO_8; have HO_55 := n0_; have BK57001 := n1_; have BK57002 := n2_; have HB := n3_; have HO57020 := n4_; clear n0_ n1_ n2_ n3_ n4_; clear ho hb hg hat))
             go_roundg k3
             case measure => have := HJ3.out; have := HK2.out; have := HK3.out; omega
             case rel => exact ⟨(y57018), (wrap64 (x38_2 + 1)), (by first | rfl | (simp; done) | (simp [*]; done)), H', ⟨by have := HJ3.out; have := HK2.out; have := HK3.out; omega⟩, ⟨by (with_reducible repeat (first | apply Kd.R_alloc | apply Kd.R_drewN | apply Kd.R_drew)); exact Kd.R_mono HO57020.out (fun _ hk => trivial)⟩, ⟨by (with_reducible repeat (first | refine blk_drewN ?_ _ | refine blk_drew ?_ | refine blk_alloc ?_ _)); exact BK57001.out⟩, ⟨by (with_reducible repeat (first | refine blk_drewN ?_ _ | refine blk_drew ?_ | refine blk_alloc ?_ _)); exact BK57002.out⟩, ⟨by repeat (first | (with_reducible first | exact HB.out | apply below_alloc | apply pw_below_drewN | apply below_drew1 | refine below_set ?_ GE57001.out | refine below_set ?_ GE57002.out) | exact HB.out)⟩⟩
            ·rw [if_neg c50] at H
             exact absurd H (by simp)
        ·rw [if_neg c34] at H
         exact absurd H (by simp)
       ·rw [if_neg c33] at H
        exact absurd H (by simp)
      ·rw [if_neg c31] at H
       have c31b0 : decide (x38_2 < (l0_0.length : Int)) = false := decide_eq_false c31
       clear c31
       simp only [Option.some.injEq, Prod.mk.injEq] at H
       obtain ⟨rfl, rfl⟩ := H
       go_wp2
       go_ret2
       exact ⟨_, by first | rfl | (simp [errW_none, errW_some] <;> rfl) | (simp [*, errW_none, errW_some] <;> rfl), by (with_reducible repeat (first | apply Kd.R_alloc | apply Kd.R_drewN | apply Kd.R_drew)); exact HO_8.out, by repeat (first | (with_reducible first | exact HB.out | apply below_alloc | apply pw_below_drewN | apply below_drew1 | refine below_set ?_ GE57001.out | refine below_set ?_ GE57002.out) | exact HB.out)⟩

theorem spec_TimesFor.c (k : Nat) (A0_0 : Option Addr) (c0_0 : Nat) (l0_0 : List (S116)) (A0_1 : Option Addr) (c0_1 : Nat) (l0_1 : List (S90)) (a0_2 : Int) (A1_0 : Option Addr) (c1_0 : Nat) (l1_0 : List Int) (A1_1 : Option Addr) (c1_1 : Nat) (l1_1 : List Int) (A2 : Option Addr) (c2 : Nat) (l2 : List Int) (r1 : List Int) (r2 : Bool) (w : World) (hr0_0 : Kd.C k116 w A0_0 l0_0.length l0_0) (hc0_0 : l0_0.length ≤ c0_0) (hr0_1 : Kd.C k90 w A0_1 l0_1.length l0_1) (hc0_1 : l0_1.length ≤ c0_1) (hr1_0 : Kd.C (Kd.int .i64) w A1_0 l1_0.length l1_0) (hc1_0 : l1_0.length ≤ c1_0) (hr1_1 : Kd.C (Kd.int .i64) w A1_1 l1_1.length l1_1) (hc1_1 : l1_1.length ≤ c1_1) (hr2 : Kd.C (Kd.int .i64) w A2 l2.length l2) (hc2 : l2.length ≤ c2) (h : spec_TimesFor.f k l0_0 l0_1 a0_2 l1_0 l1_1 l2 = some (r1, r2)) :
  Calls Try.prog 57 #[.agg #[.slice A0_0 l0_0.length c0_0, .slice A0_1 l0_1.length c0_1, .int .i64 a0_2], .agg #[.slice A1_0 l1_0.length c1_0, .slice A1_1 l1_1.length c1_1], .slice A2 l2.length c2] w fun e w' => ∃ A0_ c0_, e = .returned (.tuple #[.slice A0_ r1.length c0_, .bool r2]) ∧ Aside0 (r1.length ≤ c0_ ∧ Kd.C (Kd.int .i64) w' A0_ r1.length r1) ∧ Below w.heap.size w w' :=
 (spec_TimesFor.calls k A0_0 c0_0 l0_0 A0_1 c0_1 l0_1 a0_2 A1_0 c1_0 l1_0 A1_1 c1_1 l1_1 A2 c2 l2 r1 r2 w hr0_0 hc0_0 hr0_1 hc0_1 hr1_0 hc1_0 hr1_1 hc1_1 hr2 hc2 h).mono fun e w' ⟨v0_, he, q0_, hb⟩ => by
  obtain ⟨A0_, c0_, rfl, g0_⟩ := Kd.R_reads q0_
  exact ⟨A0_, c0_, he, ⟨g0_⟩, hb⟩

theorem laws_toIntS.c (k : Nat) (A0 : Option Addr) (c0 : Nat) (l0 : List Int) (r : List Int) (w : World) (hr0 : Kd.C (Kd.int .i64) w A0 l0.length l0) (hc0 : l0.length ≤ c0) (h : laws_toIntS.f k l0 = some r) :
  Calls Try.prog 58 #[.slice A0 l0.length c0] w fun e w' => ∃ A0_ c0_, e = .returned (.slice A0_ r.length c0_) ∧ Aside0 (r.length ≤ c0_ ∧ Kd.C (Kd.int .i64) w' A0_ r.length r) ∧ Below w.heap.size w w' :=
 (laws_toIntS.calls k A0 c0 l0 r w hr0 hc0 h).mono fun e w' ⟨v0_, he, q0_, hb⟩ => by
  obtain ⟨A0_, c0_, rfl, g0_⟩ := Kd.R_reads q0_
  exact ⟨A0_, c0_, he, ⟨g0_⟩, hb⟩

def laws_szIntS.f (l0 : List Int) (a1 : Int) : Option (Int) := if (wrap64 (a1 - (l0.length : Int))) < 0 then (some (-1)) else (some (wrap64 (a1 - (l0.length : Int))))
set_option maxHeartbeats 8000000 in
set_option maxRecDepth 100000 in
theorem laws_szIntS.calls (A0 : Option Addr) (c0 : Nat) (l0 : List Int) (a1 : Int) (r : Int) (w : World) (hr0 : Kd.C (Kd.int .i64) w A0 l0.length l0) (hc0 : l0.length ≤ c0) (h : laws_szIntS.f l0 a1 = some r) :
  Calls Try.prog 65 #[.slice A0 l0.length c0, .int .i64 a1] w fun e w' => e = .returned (.int .i64 r) ∧ Drawn0 w w' := by
 have HR0 := Aside0.mk hr0; have HC0 := Aside0.mk hc0; clear hr0 hc0
 have H : (if (wrap64 (a1 - (l0.length : Int))) < 0 then (some (-1)) else (some (wrap64 (a1 - (l0.length : Int))))) = some r := h
 clear h
 by_cases c3 : (wrap64 (a1 - (l0.length : Int))) < 0
 ·rw [if_pos c3] at H
  have c3b0 : decide ((wrap64 (a1 - (l0.length : Int))) < 0) = true := decide_eq_true c3
  clear c3
  obtain rfl := Option.some.inj H
  go_enter Try.func65, Try.ntmps65
  go_wp2
  go_ret
  exact ⟨by first | rfl | (simp; done) | (simp [*]; done), by repeat (first | exact Drawn0.refl _ | apply Drawn0.step)⟩
 ·rw [if_neg c3] at H
  have c3b0 : decide ((wrap64 (a1 - (l0.length : Int))) < 0) = false := decide_eq_false c3
  clear c3
  obtain rfl := Option.some.inj H
  go_enter Try.func65, Try.ntmps65
  go_wp2
  go_ret
  exact ⟨by first | rfl | (simp; done) | (simp [*]; done), by repeat (first | exact Drawn0.refl _ | apply Drawn0.step)⟩

def laws_szNode.f (a0_0 : ByteArray) (l0_1 : List Int) (a0_2 : Int) (a1 : Int) : Option (Int) := if (wrap64 (a1 - (a0_0.size : Int))) < 0 then (some (-1)) else ((laws_szIntS.f l0_1 (wrap64 (a1 - (a0_0.size : Int)))).bind fun t116002 => (if t116002 < 0 then (some (-1)) else (some t116002)))
set_option maxHeartbeats 8000000 in
set_option maxRecDepth 100000 in
theorem laws_szNode.calls (a0_0 : ByteArray) (A0_1 : Option Addr) (c0_1 : Nat) (l0_1 : List Int) (a0_2 : Int) (a1 : Int) (r : Int) (w : World) (hr0_1 : Kd.C (Kd.int .i64) w A0_1 l0_1.length l0_1) (hc0_1 : l0_1.length ≤ c0_1) (h : laws_szNode.f a0_0 l0_1 a0_2 a1 = some r) :
  Calls Try.prog 116 #[.agg #[.string a0_0, .slice A0_1 l0_1.length c0_1, .int .i64 a0_2], .int .i64 a1] w fun e w' => e = .returned (.int .i64 r) ∧ Below w.heap.size w w' := by
 have hu127 := Try.underlying127
 have HR0_1 := Aside0.mk hr0_1; have HC0_1 := Aside0.mk hc0_1; clear hr0_1 hc0_1
 have HB := Aside0.mk (Below.refl w.heap.size w)
 have H : (if (wrap64 (a1 - (a0_0.size : Int))) < 0 then (some (-1)) else ((laws_szIntS.f l0_1 (wrap64 (a1 - (a0_0.size : Int)))).bind fun t116002 => (if t116002 < 0 then (some (-1)) else (some t116002)))) = some r := h
 clear h
 by_cases c3 : (wrap64 (a1 - (a0_0.size : Int))) < 0
 ·rw [if_pos c3] at H
  have c3b0 : decide ((wrap64 (a1 - (a0_0.size : Int))) < 0) = true := decide_eq_true c3
  clear c3
  obtain rfl := Option.some.inj H
  go_enter Try.func116, Try.ntmps116
  go_wp2_with (first | ((with_reducible refine gate_dst (N := 2) rfl ?_); refine box_event ?hg (N := 2) ?hd (cs := #[.string a0_0, .slice A0_1 l0_1.length c0_1, .int .i64 a0_2]) (t := 127) ?hr ?_; (case hd => rfl); (case hg => rfl); (case hr => first | (go_simp; done) | (go_simp; rfl)); intro gb116001 hg w4 hbox hb; have n0_ := Aside0.mk (below_step (by repeat (first | (with_reducible first | exact HB.out | apply below_alloc | apply pw_below_drewN | apply below_drew1) | exact HB.out)) hb); have n1_ := Aside0.mk (hbox); have n2_ := Aside0.mk ((by rw [hg]; exact (below_size (by repeat (first | (with_reducible first | exact HB.out | apply below_alloc | apply pw_below_drewN | apply below_drew1) | exact HB.out))) : w.heap.size ≤ gb116001)); have n3_ := Aside0.mk ((by rw [hg]; exact (below_size (by repeat (first | (with_reducible first | exact HB.out | apply below_alloc | apply pw_below_drewN | apply below_drew1) | exact HB.out))) : w.heap.size ≤ gb116001)); clear HB; have HB := n0_; have BK116001 := n1_; have GW116001 := n2_; have GE116001 := n3_; clear n0_ n1_ n2_ n3_; clear hb hbox hg; have hcz5_0 : w4.cell? ⟨gb116001, 0, none⟩ = some (.string a0_0) := (blk_cell BK116001.out 0).trans rfl; have hcz5_1 : w4.cell? ⟨gb116001, 1, none⟩ = some (.slice A0_1 l0_1.length c0_1) := (blk_cell BK116001.out 1).trans rfl; have hcz5_2 : w4.cell? ⟨gb116001, 2, none⟩ = some (.int .i64 a0_2) := (blk_cell BK116001.out 2).trans rfl; have hfz5_0 := blk_frozen BK116001.out 0; have hfz5_1 := blk_frozen BK116001.out 1; have hfz5_2 := blk_frozen BK116001.out 2))
  go_ret
  exact ⟨by first | rfl | (simp [errW_none, errW_some] <;> rfl) | (simp [*, errW_none, errW_some] <;> rfl), by repeat (first | (with_reducible first | exact HB.out | apply below_alloc | apply pw_below_drewN | apply below_drew1 | refine below_set ?_ GE116001.out) | exact HB.out)⟩
 ·rw [if_neg c3] at H
  have c3b0 : decide ((wrap64 (a1 - (a0_0.size : Int))) < 0) = false := decide_eq_false c3
  clear c3
  replace H := Option.bind_eq_some_iff.mp H
  obtain ⟨t116002, A60, H⟩ := H
  replace H : (if t116002 < 0 then (some (-1)) else (some t116002)) = some r := H
  have A6 := Aside0.mk A60; clear A60
  by_cases c7 : t116002 < 0
  ·rw [if_pos c7] at H
   have c7b0 : decide (t116002 < 0) = true := decide_eq_true c7
   clear c7
   obtain rfl := Option.some.inj H
   go_enter Try.func116, Try.ntmps116
   go_wp2_with (first | ((with_reducible refine gate_dst (N := 2) rfl ?_); refine box_event ?hg (N := 2) ?hd (cs := #[.string a0_0, .slice A0_1 l0_1.length c0_1, .int .i64 a0_2]) (t := 127) ?hr ?_; (case hd => rfl); (case hg => rfl); (case hr => first | (go_simp; done) | (go_simp; rfl)); intro gb116001 hg w8 hbox hb; have n0_ := Aside0.mk (below_step (by repeat (first | (with_reducible first | exact HB.out | apply below_alloc | apply pw_below_drewN | apply below_drew1) | exact HB.out)) hb); have n1_ := Aside0.mk (hbox); have n2_ := Aside0.mk ((by rw [hg]; exact (below_size (by repeat (first | (with_reducible first | exact HB.out | apply below_alloc | apply pw_below_drewN | apply below_drew1) | exact HB.out))) : w.heap.size ≤ gb116001)); have n3_ := Aside0.mk ((by rw [hg]; exact (below_size (by repeat (first | (with_reducible first | exact HB.out | apply below_alloc | apply pw_below_drewN | apply below_drew1) | exact HB.out))) : w.heap.size ≤ gb116001)); clear HB; have HB := n0_; have BK116001 := n1_; have GW116001 := n2_; have GE116001 := n3_; clear n0_ n1_ n2_ n3_; clear hb hbox hg; have hcz9_0 : w8.cell? ⟨gb116001, 0, none⟩ = some (.string a0_0) := (blk_cell BK116001.out 0).trans rfl; have hcz9_1 : w8.cell? ⟨gb116001, 1, none⟩ = some (.slice A0_1 l0_1.length c0_1) := (blk_cell BK116001.out 1).trans rfl; have hcz9_2 : w8.cell? ⟨gb116001, 2, none⟩ = some (.int .i64 a0_2) := (blk_cell BK116001.out 2).trans rfl; have hfz9_0 := blk_frozen BK116001.out 0; have hfz9_1 := blk_frozen BK116001.out 1; have hfz9_2 := blk_frozen BK116001.out 2) | ((with_reducible refine gate_callee (f := 65) rfl ?_); refine goesL_ (some 15) rfl rfl Try.func65 (by kernel_rfl) rfl #[.slice A0_1 l0_1.length c0_1, .int .i64 (wrap64 (a1 - (a0_0.size : Int)))] rfl (by (try simp only [List.map_toArray, List.map_cons, List.map_nil]); first | done | rfl | (simp only [List.length_drop, List.length_take]; rfl)) ?_; (with_reducible refine (laws_szIntS.calls _ _ l0_1 (wrap64 (a1 - (a0_0.size : Int))) t116002 _ ?side1 ?side2 A6.out).mono ?_); (case side1 => repeat (first | exact (Kd.C_below HR0_1.out HB.out) | (with_reducible refine Kd.C_alloc ?_ _) | (with_reducible refine Kd.C_drewN ?_ _) | (with_reducible refine Kd.C_drew ?_))); (case side2 => exact HC0_1.out); rintro e w' ⟨rfl, ⟨nd, rfl⟩⟩; refine ⟨_, rfl, ?_⟩))
   go_ret
   exact ⟨by first | rfl | (simp [errW_none, errW_some] <;> rfl) | (simp [*, errW_none, errW_some] <;> rfl), by repeat (first | (with_reducible first | exact HB.out | apply below_alloc | apply pw_below_drewN | apply below_drew1 | refine below_set ?_ GE116001.out) | exact HB.out)⟩
  ·rw [if_neg c7] at H
   have c7b0 : decide (t116002 < 0) = false := decide_eq_false c7
   clear c7
   obtain rfl := Option.some.inj H
   go_enter Try.func116, Try.ntmps116
   go_wp2_with (first | ((with_reducible refine gate_dst (N := 2) rfl ?_); refine box_event ?hg (N := 2) ?hd (cs := #[.string a0_0, .slice A0_1 l0_1.length c0_1, .int .i64 a0_2]) (t := 127) ?hr ?_; (case hd => rfl); (case hg => rfl); (case hr => first | (go_simp; done) | (go_simp; rfl)); intro gb116001 hg w10 hbox hb; have n0_ := Aside0.mk (below_step (by repeat (first | (with_reducible first | exact HB.out | apply below_alloc | apply pw_below_drewN | apply below_drew1) | exact HB.out)) hb); have n1_ := Aside0.mk (hbox); have n2_ := Aside0.mk ((by rw [hg]; exact (below_size (by repeat (first | (with_reducible first | exact HB.out | apply below_alloc | apply pw_below_drewN | apply below_drew1) | exact HB.out))) : w.heap.size ≤ gb116001)); have n3_ := Aside0.mk ((by rw [hg]; exact (below_size (by repeat (first | (with_reducible first | exact HB.out | apply below_alloc | apply pw_below_drewN | apply below_drew1) | exact HB.out))) : w.heap.size ≤ gb116001)); clear HB; have HB := n0_; have BK116001 := n1_; have GW116001 := n2_; have GE116001 := n3_; clear n0_ n1_ n2_ n3_; clear hb hbox hg; have hcz11_0 : w10.cell? ⟨gb116001, 0, none⟩ = some (.string a0_0) := (blk_cell BK116001.out 0).trans rfl; have hcz11_1 : w10.cell? ⟨gb116001, 1, none⟩ = some (.slice A0_1 l0_1.length c0_1) := (blk_cell BK116001.out 1).trans rfl; have hcz11_2 : w10.cell? ⟨gb116001, 2, none⟩ = some (.int .i64 a0_2) := (blk_cell BK116001.out 2).trans rfl; have hfz11_0 := blk_frozen BK116001.out 0; have hfz11_1 := blk_frozen BK116001.out 1; have hfz11_2 := blk_frozen BK116001.out 2) | ((with_reducible refine gate_callee (f := 65) rfl ?_); refine goesL_ (some 15) rfl rfl Try.func65 (by kernel_rfl) rfl #[.slice A0_1 l0_1.length c0_1, .int .i64 (wrap64 (a1 - (a0_0.size : Int)))] rfl (by (try simp only [List.map_toArray, List.map_cons, List.map_nil]); first | done | rfl | (simp only [List.length_drop, List.length_take]; rfl)) ?_; (with_reducible refine (laws_szIntS.calls _ _ l0_1 (wrap64 (a1 - (a0_0.size : Int))) t116002 _ ?side1 ?side2 A6.out).mono ?_); (case side1 => repeat (first | exact (Kd.C_below HR0_1.out HB.out) | (with_reducible refine Kd.C_alloc ?_ _) | (with_reducible refine Kd.C_drewN ?_ _) | (with_reducible refine Kd.C_drew ?_))); (case side2 => exact HC0_1.out); rintro e w' ⟨rfl, ⟨nd, rfl⟩⟩; refine ⟨_, rfl, ?_⟩))
   go_ret
   exact ⟨by first | rfl | (simp [errW_none, errW_some] <;> rfl) | (simp [*, errW_none, errW_some] <;> rfl), by repeat (first | (with_reducible first | exact HB.out | apply below_alloc | apply pw_below_drewN | apply below_drew1 | refine below_set ?_ GE116001.out) | exact HB.out)⟩

def laws_szNodeS.l0 : Nat → List (S127) → Int → Int → Option (Int)
 | 0, _, _, _ => none
 | k + 1, x0, x1, x5 => if x5 < (x0.length : Int) then (if 0 ≤ x5 then ((laws_szNode.f ((rd_T127 x0 x5).f0) ((rd_T127 x0 x5).f1) ((rd_T127 x0 x5).f2) x1).bind fun t63002 => (if t63002 < 0 then (some (-1)) else (laws_szNodeS.l0 k x0 t63002 (wrap64 (x5 + 1))))) else (none)) else (some x1)
def laws_szNodeS.f (k : Nat) (l0 : List (S127)) (a1 : Int) : Option (Int) := if (wrap64 (a1 - (l0.length : Int))) < 0 then (some (-1)) else (laws_szNodeS.l0 k l0 (wrap64 (a1 - (l0.length : Int))) 0)
set_option maxHeartbeats 8000000 in
set_option maxRecDepth 100000 in
theorem laws_szNodeS.calls (k : Nat) (A0 : Option Addr) (c0 : Nat) (l0 : List (S127)) (a1 : Int) (r : Int) (w : World) (hr0 : Kd.C k127 w A0 l0.length l0) (hc0 : l0.length ≤ c0) (h : laws_szNodeS.f k l0 a1 = some r) :
  Calls Try.prog 63 #[.slice A0 l0.length c0, .int .i64 a1] w fun e w' => e = .returned (.int .i64 r) ∧ Below w.heap.size w w' := by
 have hu127 := Try.underlying127
 have HR0 := Aside0.mk hr0; have HC0 := Aside0.mk hc0; clear hr0 hc0
 have HB := Aside0.mk (Below.refl w.heap.size w)
 have H : (if (wrap64 (a1 - (l0.length : Int))) < 0 then (some (-1)) else (laws_szNodeS.l0 k l0 (wrap64 (a1 - (l0.length : Int))) 0)) = some r := h
 clear h
 by_cases c3 : (wrap64 (a1 - (l0.length : Int))) < 0
 ·rw [if_pos c3] at H
  have c3b0 : decide ((wrap64 (a1 - (l0.length : Int))) < 0) = true := decide_eq_true c3
  clear c3
  obtain rfl := Option.some.inj H
  go_enter Try.func63, Try.ntmps63
  go_wp2
  go_ret
  exact ⟨by first | rfl | (simp [errW_none, errW_some] <;> rfl) | (simp [*, errW_none, errW_some] <;> rfl), by repeat (first | (with_reducible first | exact HB.out | apply below_alloc | apply pw_below_drewN | apply below_drew1) | exact HB.out)⟩
 ·rw [if_neg c3] at H
  have c3b0 : decide ((wrap64 (a1 - (l0.length : Int))) < 0) = false := decide_eq_false c3
  clear c3
  have H' := Aside0.mk H
  clear H
  go_enter Try.func63, Try.ntmps63
  go_wp2
  go_loopg [1, 5] k (fun kq v1 v5 w' => ∃ (x1_1 : Int) (x5_1 : Int), v1 = .int .i64 x1_1 ∧ v5 = .int .i64 x5_1 ∧ Aside0 (laws_szNodeS.l0 kq l0 x1_1 x5_1 = some r) ∧ Aside0 (kq ≤ k) ∧ Aside0 (Below w.heap.size w w'))
  case atStart => exact ⟨(wrap64 (a1 - (l0.length : Int))), (0), (by first | rfl | (simp; done) | (simp [*]; done)), (by first | rfl | (simp; done) | (simp [*]; done)), H', ⟨Nat.le_refl _⟩, ⟨by repeat (first | (with_reducible first | exact HB.out | apply below_alloc | apply pw_below_drewN | apply below_drew1) | exact HB.out)⟩⟩
  case round =>
   clear H'
   try clear p2
   try clear c3
   try clear c3b0
   obtain ⟨x1_1, x5_1, rfl, rfl, HA, HK1, HB⟩ := hrel
   cases gk with
   | zero => exact absurd HA.out (by simp [laws_szNodeS.l0])
   | succ k1 =>
    have H := HA.out
    clear HA
    simp only [laws_szNodeS.l0] at H
    by_cases c4 : x5_1 < (l0.length : Int)
    ·rw [if_pos c4] at H
     have c4b0 : decide (x5_1 < (l0.length : Int)) = true := decide_eq_true c4
     clear c4
     by_cases c5 : 0 ≤ x5_1
     ·rw [if_pos c5] at H
      have c5b0 : decide (0 ≤ x5_1) = true := decide_eq_true c5
      clear c5
      replace H := Option.bind_eq_some_iff.mp H
      obtain ⟨t63002, A60, H⟩ := H
      replace H : (if t63002 < 0 then (some (-1)) else (laws_szNodeS.l0 k1 l0 t63002 (wrap64 (x5_1 + 1)))) = some r := H
      have A6 := Aside0.mk A60; clear A60
      by_cases c7 : t63002 < 0
      ·rw [if_pos c7] at H
       have c7b0 : decide (t63002 < 0) = true := decide_eq_true c7
       clear c7
       obtain rfl := Option.some.inj H
       have p63001 : 0 ≤ (x5_1 : Int) := of_decide_eq_true (by first | (with_reducible assumption) | assumption)
       have q63001 : x5_1 < (l0.length : Int) := of_decide_eq_true (by first | (with_reducible assumption) | assumption)
       obtain ⟨ad63001, A63001_1, c63001_1, e63001, hx63001_0, hx63001_1, hx63001_2, hl63001_1, hi63001_1⟩ := at_T127 HR0.out x5_1 p63001 q63001
       cases e63001
       replace hx63001_0 := (HB.out.cell (World.block_lt_of_cell? w _ hx63001_0)).trans hx63001_0
       replace hx63001_1 := (HB.out.cell (World.block_lt_of_cell? w _ hx63001_1)).trans hx63001_1
       replace hx63001_2 := (HB.out.cell (World.block_lt_of_cell? w _ hx63001_2)).trans hx63001_2
       have HR63001_1 := Aside0.mk hi63001_1; have HC63001_1 := Aside0.mk hl63001_1; clear hi63001_1 hl63001_1
       replace p63001 := eq_true p63001
       replace q63001 := eq_true q63001
       go_wp2_with (first | ((with_reducible refine gate_callee (f := 116) rfl ?_); refine goesL_ (some 23) rfl rfl Try.func116 (by kernel_rfl) rfl #[.agg #[.string ((rd_T127 l0 x5_1).f0), .slice A63001_1 ((rd_T127 l0 x5_1).f1).length c63001_1, .int .i64 ((rd_T127 l0 x5_1).f2)], .int .i64 x1_1] rfl (by (try simp only [List.map_toArray, List.map_cons, List.map_nil]); first | done | rfl | (simp only [List.length_drop, List.length_take]; rfl)) ?_; (with_reducible refine (laws_szNode.calls ((rd_T127 l0 x5_1).f0) _ _ ((rd_T127 l0 x5_1).f1) ((rd_T127 l0 x5_1).f2) x1_1 t63002 _ ?side1 ?side2 A6.out).mono ?_); (case side1 => repeat (first | exact (Kd.C_below HR63001_1.out HB.out) | (with_reducible refine Kd.C_alloc ?_ _) | (with_reducible refine Kd.C_drewN ?_ _) | (with_reducible refine Kd.C_drew ?_))); (case side2 => exact HC63001_1.out); rintro e w8 ⟨rfl, hb⟩; refine ⟨_, rfl, ?_⟩; have n0_ := Aside0.mk (below_step (by repeat (first | (with_reducible first | exact HB.out | apply below_alloc | apply pw_below_drewN | apply below_drew1) | exact HB.out)) hb); clear HB; have HB := n0_; clear n0_; (try clear hb); (try clear hb2); (try clear hk); (try clear hi)))
       go_ret
       exact ⟨by first | rfl | (simp [errW_none, errW_some] <;> rfl) | (simp [*, errW_none, errW_some] <;> rfl), by repeat (first | (with_reducible first | exact HB.out | apply below_alloc | apply pw_below_drewN | apply below_drew1) | exact HB.out)⟩
      ·rw [if_neg c7] at H
       have c7b0 : decide (t63002 < 0) = false := decide_eq_false c7
       clear c7
       have H' := Aside0.mk H
       clear H
       have p63001 : 0 ≤ (x5_1 : Int) := of_decide_eq_true (by first | (with_reducible assumption) | assumption)
       have q63001 : x5_1 < (l0.length : Int) := of_decide_eq_true (by first | (with_reducible assumption) | assumption)
       obtain ⟨ad63001, A63001_1, c63001_1, e63001, hx63001_0, hx63001_1, hx63001_2, hl63001_1, hi63001_1⟩ := at_T127 HR0.out x5_1 p63001 q63001
       cases e63001
       replace hx63001_0 := (HB.out.cell (World.block_lt_of_cell? w _ hx63001_0)).trans hx63001_0
       replace hx63001_1 := (HB.out.cell (World.block_lt_of_cell? w _ hx63001_1)).trans hx63001_1
       replace hx63001_2 := (HB.out.cell (World.block_lt_of_cell? w _ hx63001_2)).trans hx63001_2
       have HR63001_1 := Aside0.mk hi63001_1; have HC63001_1 := Aside0.mk hl63001_1; clear hi63001_1 hl63001_1
       replace p63001 := eq_true p63001
       replace q63001 := eq_true q63001
       go_wp2_with (first | ((with_reducible refine gate_callee (f := 116) rfl ?_); refine goesL_ (some 23) rfl rfl Try.func116 (by kernel_rfl) rfl #[.agg #[.string ((rd_T127 l0 x5_1).f0), .slice A63001_1 ((rd_T127 l0 x5_1).f1).length c63001_1, .int .i64 ((rd_T127 l0 x5_1).f2)], .int .i64 x1_1] rfl (by (try simp only [List.map_toArray, List.map_cons, List.map_nil]); first | done | rfl | (simp only [List.length_drop, List.length_take]; rfl)) ?_; (with_reducible refine (laws_szNode.calls ((rd_T127 l0 x5_1).f0) _ _ ((rd_T127 l0 x5_1).f1) ((rd_T127 l0 x5_1).f2) x1_1 t63002 _ ?side1 ?side2 A6.out).mono ?_); (case side1 => repeat (first | exact (Kd.C_below HR63001_1.out HB.out) | (with_reducible refine Kd.C_alloc ?_ _) | (with_reducible refine Kd.C_drewN ?_ _) | (with_reducible refine Kd.C_drew ?_))); (case side2 => exact HC63001_1.out); rintro e w9 ⟨rfl, hb⟩; refine ⟨_, rfl, ?_⟩; have n0_ := Aside0.mk (below_step (by repeat (first | (with_reducible first | exact HB.out | apply below_alloc | apply pw_below_drewN | apply below_drew1) | exact HB.out)) hb); clear HB; have HB := n0_; clear n0_; (try clear hb); (try clear hb2); (try clear hk); (try clear hi)))
       go_roundg k1
       case measure => have := HK1.out; omega
       case rel => exact ⟨(t63002), (wrap64 (x5_1 + 1)), (by first | rfl | (simp; done) | (simp [*]; done)), (by first | rfl | (simp; done) | (simp [*]; done)), H', ⟨by have := HK1.out; omega⟩, ⟨by repeat (first | (with_reducible first | exact HB.out | apply below_alloc | apply pw_below_drewN | apply below_drew1) | exact HB.out)⟩⟩
     ·rw [if_neg c5] at H
      exact absurd H (by simp)
    ·rw [if_neg c4] at H
     have c4b0 : decide (x5_1 < (l0.length : Int)) = false := decide_eq_false c4
     clear c4
     obtain rfl := Option.some.inj H
     go_wp2
     go_ret
     exact ⟨by first | rfl | (simp [errW_none, errW_some] <;> rfl) | (simp [*, errW_none, errW_some] <;> rfl), by repeat (first | (with_reducible first | exact HB.out | apply below_alloc | apply pw_below_drewN | apply below_drew1) | exact HB.out)⟩

def laws_szTieS.f (l0 : List (S130)) (a1 : Int) : Option (Int) := if (wrap64 (a1 - (l0.length : Int))) < 0 then (some (-1)) else (some (wrap64 (a1 - (l0.length : Int))))
set_option maxHeartbeats 8000000 in
set_option maxRecDepth 100000 in
theorem laws_szTieS.calls (A0 : Option Addr) (c0 : Nat) (l0 : List (S130)) (a1 : Int) (r : Int) (w : World) (hr0 : Kd.C k130 w A0 l0.length l0) (hc0 : l0.length ≤ c0) (h : laws_szTieS.f l0 a1 = some r) :
  Calls Try.prog 64 #[.slice A0 l0.length c0, .int .i64 a1] w fun e w' => e = .returned (.int .i64 r) ∧ Drawn0 w w' := by
 have HR0 := Aside0.mk hr0; have HC0 := Aside0.mk hc0; clear hr0 hc0
 have H : (if (wrap64 (a1 - (l0.length : Int))) < 0 then (some (-1)) else (some (wrap64 (a1 - (l0.length : Int))))) = some r := h
 clear h
 by_cases c3 : (wrap64 (a1 - (l0.length : Int))) < 0
 ·rw [if_pos c3] at H
  have c3b0 : decide ((wrap64 (a1 - (l0.length : Int))) < 0) = true := decide_eq_true c3
  clear c3
  obtain rfl := Option.some.inj H
  go_enter Try.func64, Try.ntmps64
  go_wp2
  go_ret
  exact ⟨by first | rfl | (simp; done) | (simp [*]; done), by repeat (first | exact Drawn0.refl _ | apply Drawn0.step)⟩
 ·rw [if_neg c3] at H
  have c3b0 : decide ((wrap64 (a1 - (l0.length : Int))) < 0) = false := decide_eq_false c3
  clear c3
  obtain rfl := Option.some.inj H
  go_enter Try.func64, Try.ntmps64
  go_wp2
  go_ret
  exact ⟨by first | rfl | (simp; done) | (simp [*]; done), by repeat (first | exact Drawn0.refl _ | apply Drawn0.step)⟩

def laws_szShow.f (k : Nat) (l0_0 : List (S127)) (l0_1 : List (S130)) (a0_2 : Int) (a1 : Int) : Option (Int) := (laws_szNodeS.f k l0_0 a1).bind fun t15002 => (if t15002 < 0 then (some (-1)) else ((laws_szTieS.f l0_1 t15002).bind fun t15003 => (if t15003 < 0 then (some (-1)) else (some t15003))))
set_option maxHeartbeats 8000000 in
set_option maxRecDepth 100000 in
theorem laws_szShow.calls (k : Nat) (A0_0 : Option Addr) (c0_0 : Nat) (l0_0 : List (S127)) (A0_1 : Option Addr) (c0_1 : Nat) (l0_1 : List (S130)) (a0_2 : Int) (a1 : Int) (r : Int) (w : World) (hr0_0 : Kd.C k127 w A0_0 l0_0.length l0_0) (hc0_0 : l0_0.length ≤ c0_0) (hr0_1 : Kd.C k130 w A0_1 l0_1.length l0_1) (hc0_1 : l0_1.length ≤ c0_1) (h : laws_szShow.f k l0_0 l0_1 a0_2 a1 = some r) :
  Calls Try.prog 15 #[.agg #[.slice A0_0 l0_0.length c0_0, .slice A0_1 l0_1.length c0_1, .int .i64 a0_2], .int .i64 a1] w fun e w' => e = .returned (.int .i64 r) ∧ Below w.heap.size w w' := by
 have hu25 := Try.underlying25
 have HR0_0 := Aside0.mk hr0_0; have HC0_0 := Aside0.mk hc0_0; clear hr0_0 hc0_0; have HR0_1 := Aside0.mk hr0_1; have HC0_1 := Aside0.mk hc0_1; clear hr0_1 hc0_1
 have HB := Aside0.mk (Below.refl w.heap.size w)
 have H : ((laws_szNodeS.f k l0_0 a1).bind fun t15002 => (if t15002 < 0 then (some (-1)) else ((laws_szTieS.f l0_1 t15002).bind fun t15003 => (if t15003 < 0 then (some (-1)) else (some t15003))))) = some r := h
 clear h
 replace H := Option.bind_eq_some_iff.mp H
 obtain ⟨t15002, A30, H⟩ := H
 replace H : (if t15002 < 0 then (some (-1)) else ((laws_szTieS.f l0_1 t15002).bind fun t15003 => (if t15003 < 0 then (some (-1)) else (some t15003)))) = some r := H
 have A3 := Aside0.mk A30; clear A30
 by_cases c4 : t15002 < 0
 ·rw [if_pos c4] at H
  have c4b0 : decide (t15002 < 0) = true := decide_eq_true c4
  clear c4
  obtain rfl := Option.some.inj H
  go_enter Try.func15, Try.ntmps15
  go_wp2_with (first | ((with_reducible refine gate_dst (N := 2) rfl ?_); refine box_event ?hg (N := 2) ?hd (cs := #[.slice A0_0 l0_0.length c0_0, .slice A0_1 l0_1.length c0_1, .int .i64 a0_2]) (t := 25) ?hr ?_; (case hd => rfl); (case hg => rfl); (case hr => first | (go_simp; done) | (go_simp; rfl)); intro gb15001 hg w5 hbox hb; have n0_ := Aside0.mk (below_step (by repeat (first | (with_reducible first | exact HB.out | apply below_alloc | apply pw_below_drewN | apply below_drew1) | exact HB.out)) hb); have n1_ := Aside0.mk (hbox); have n2_ := Aside0.mk ((by rw [hg]; exact (below_size (by repeat (first | (with_reducible first | exact HB.out | apply below_alloc | apply pw_below_drewN | apply below_drew1) | exact HB.out))) : w.heap.size ≤ gb15001)); have n3_ := Aside0.mk ((by rw [hg]; exact (below_size (by repeat (first | (with_reducible first | exact HB.out | apply below_alloc | apply pw_below_drewN | apply below_drew1) | exact HB.out))) : w.heap.size ≤ gb15001)); clear HB; have HB := n0_; have BK15001 := n1_; have GW15001 := n2_; have GE15001 := n3_; clear n0_ n1_ n2_ n3_; clear hb hbox hg; have hcz6_0 : w5.cell? ⟨gb15001, 0, none⟩ = some (.slice A0_0 l0_0.length c0_0) := (blk_cell BK15001.out 0).trans rfl; have hcz6_1 : w5.cell? ⟨gb15001, 1, none⟩ = some (.slice A0_1 l0_1.length c0_1) := (blk_cell BK15001.out 1).trans rfl; have hcz6_2 : w5.cell? ⟨gb15001, 2, none⟩ = some (.int .i64 a0_2) := (blk_cell BK15001.out 2).trans rfl; have hfz6_0 := blk_frozen BK15001.out 0; have hfz6_1 := blk_frozen BK15001.out 1; have hfz6_2 := blk_frozen BK15001.out 2) | ((with_reducible refine gate_callee (f := 63) rfl ?_); refine goesL_ (some 8) rfl rfl Try.func63 (by kernel_rfl) rfl #[.slice A0_0 l0_0.length c0_0, .int .i64 a1] rfl (by (try simp only [List.map_toArray, List.map_cons, List.map_nil]); first | done | rfl | (simp only [List.length_drop, List.length_take]; rfl)) ?_; (with_reducible refine (laws_szNodeS.calls k _ _ l0_0 a1 t15002 _ ?side1 ?side2 A3.out).mono ?_); (case side1 => repeat (first | exact (Kd.C_below HR0_0.out HB.out) | (with_reducible refine Kd.C_alloc ?_ _) | (with_reducible refine Kd.C_drewN ?_ _) | (with_reducible refine Kd.C_drew ?_))); (case side2 => exact HC0_0.out); rintro e w7 ⟨rfl, hb⟩; refine ⟨_, rfl, ?_⟩; have n0_ := Aside0.mk (blk_below (g := gb15001) (o := .cells #[.slice A0_0 l0_0.length c0_0, .slice A0_1 l0_1.length c0_1, .int .i64 a0_2] 25 (0, 0)) (by (with_reducible repeat (first | refine blk_drewN ?_ _ | refine blk_drew ?_ | refine blk_alloc ?_ _)); exact BK15001.out) hb); have n1_ := Aside0.mk (below_step (by repeat (first | (with_reducible first | exact HB.out | apply below_alloc | apply pw_below_drewN | apply below_drew1 | refine below_set ?_ GE15001.out) | exact HB.out)) hb); clear BK15001; clear HB; have BK15001 := n0_; have HB := n1_; clear n0_ n1_; (try clear hb); (try clear hb2); (try clear hk); (try clear hi)))
  go_ret
  exact ⟨by first | rfl | (simp [errW_none, errW_some] <;> rfl) | (simp [*, errW_none, errW_some] <;> rfl), by repeat (first | (with_reducible first | exact HB.out | apply below_alloc | apply pw_below_drewN | apply below_drew1 | refine below_set ?_ GE15001.out) | exact HB.out)⟩
 ·rw [if_neg c4] at H
  have c4b0 : decide (t15002 < 0) = false := decide_eq_false c4
  clear c4
  replace H := Option.bind_eq_some_iff.mp H
  obtain ⟨t15003, A80, H⟩ := H
  replace H : (if t15003 < 0 then (some (-1)) else (some t15003)) = some r := H
  have A8 := Aside0.mk A80; clear A80
  by_cases c9 : t15003 < 0
  ·rw [if_pos c9] at H
   have c9b0 : decide (t15003 < 0) = true := decide_eq_true c9
   clear c9
   obtain rfl := Option.some.inj H
   go_enter Try.func15, Try.ntmps15
   go_wp2_with (first | ((with_reducible refine gate_dst (N := 2) rfl ?_); refine box_event ?hg (N := 2) ?hd (cs := #[.slice A0_0 l0_0.length c0_0, .slice A0_1 l0_1.length c0_1, .int .i64 a0_2]) (t := 25) ?hr ?_; (case hd => rfl); (case hg => rfl); (case hr => first | (go_simp; done) | (go_simp; rfl)); intro gb15001 hg w10 hbox hb; have n0_ := Aside0.mk (below_step (by repeat (first | (with_reducible first | exact HB.out | apply below_alloc | apply pw_below_drewN | apply below_drew1) | exact HB.out)) hb); have n1_ := Aside0.mk (hbox); have n2_ := Aside0.mk ((by rw [hg]; exact (below_size (by repeat (first | (with_reducible first | exact HB.out | apply below_alloc | apply pw_below_drewN | apply below_drew1) | exact HB.out))) : w.heap.size ≤ gb15001)); have n3_ := Aside0.mk ((by rw [hg]; exact (below_size (by repeat (first | (with_reducible first | exact HB.out | apply below_alloc | apply pw_below_drewN | apply below_drew1) | exact HB.out))) : w.heap.size ≤ gb15001)); clear HB; have HB := n0_; have BK15001 := n1_; have GW15001 := n2_; have GE15001 := n3_; clear n0_ n1_ n2_ n3_; clear hb hbox hg; have hcz11_0 : w10.cell? ⟨gb15001, 0, none⟩ = some (.slice A0_0 l0_0.length c0_0) := (blk_cell BK15001.out 0).trans rfl; have hcz11_1 : w10.cell? ⟨gb15001, 1, none⟩ = some (.slice A0_1 l0_1.length c0_1) := (blk_cell BK15001.out 1).trans rfl; have hcz11_2 : w10.cell? ⟨gb15001, 2, none⟩ = some (.int .i64 a0_2) := (blk_cell BK15001.out 2).trans rfl; have hfz11_0 := blk_frozen BK15001.out 0; have hfz11_1 := blk_frozen BK15001.out 1; have hfz11_2 := blk_frozen BK15001.out 2) | ((with_reducible refine gate_callee (f := 63) rfl ?_); refine goesL_ (some 8) rfl rfl Try.func63 (by kernel_rfl) rfl #[.slice A0_0 l0_0.length c0_0, .int .i64 a1] rfl (by (try simp only [List.map_toArray, List.map_cons, List.map_nil]); first | done | rfl | (simp only [List.length_drop, List.length_take]; rfl)) ?_; (with_reducible refine (laws_szNodeS.calls k _ _ l0_0 a1 t15002 _ ?side1 ?side2 A3.out).mono ?_); (case side1 => repeat (first | exact (Kd.C_below HR0_0.out HB.out) | (with_reducible refine Kd.C_alloc ?_ _) | (with_reducible refine Kd.C_drewN ?_ _) | (with_reducible refine Kd.C_drew ?_))); (case side2 => exact HC0_0.out); rintro e w12 ⟨rfl, hb⟩; refine ⟨_, rfl, ?_⟩; have n0_ := Aside0.mk (blk_below (g := gb15001) (o := .cells #[.slice A0_0 l0_0.length c0_0, .slice A0_1 l0_1.length c0_1, .int .i64 a0_2] 25 (0, 0)) (by (with_reducible repeat (first | refine blk_drewN ?_ _ | refine blk_drew ?_ | refine blk_alloc ?_ _)); exact BK15001.out) hb); have n1_ := Aside0.mk (below_step (by repeat (first | (with_reducible first | exact HB.out | apply below_alloc | apply pw_below_drewN | apply below_drew1 | refine below_set ?_ GE15001.out) | exact HB.out)) hb); clear BK15001; clear HB; have BK15001 := n0_; have HB := n1_; clear n0_ n1_; (try clear hb); (try clear hb2); (try clear hk); (try clear hi); have hcz13_0 : w12.cell? ⟨gb15001, 0, none⟩ = some (.slice A0_0 l0_0.length c0_0) := (blk_cell BK15001.out 0).trans rfl; have hcz13_1 : w12.cell? ⟨gb15001, 1, none⟩ = some (.slice A0_1 l0_1.length c0_1) := (blk_cell BK15001.out 1).trans rfl; have hcz13_2 : w12.cell? ⟨gb15001, 2, none⟩ = some (.int .i64 a0_2) := (blk_cell BK15001.out 2).trans rfl; have hfz13_0 := blk_frozen BK15001.out 0; have hfz13_1 := blk_frozen BK15001.out 1; have hfz13_2 := blk_frozen BK15001.out 2) | ((with_reducible refine gate_callee (f := 64) rfl ?_); refine goesL_ (some 14) rfl rfl Try.func64 (by kernel_rfl) rfl #[.slice A0_1 l0_1.length c0_1, .int .i64 t15002] rfl (by (try simp only [List.map_toArray, List.map_cons, List.map_nil]); first | done | rfl | (simp only [List.length_drop, List.length_take]; rfl)) ?_; (with_reducible refine (laws_szTieS.calls _ _ l0_1 t15002 t15003 _ ?side1 ?side2 A8.out).mono ?_); (case side1 => repeat (first | exact (Kd.C_below HR0_1.out HB.out) | (with_reducible refine Kd.C_alloc ?_ _) | (with_reducible refine Kd.C_drewN ?_ _) | (with_reducible refine Kd.C_drew ?_))); (case side2 => exact HC0_1.out); rintro e w' ⟨rfl, ⟨nd, rfl⟩⟩; refine ⟨_, rfl, ?_⟩))
   go_ret
   exact ⟨by first | rfl | (simp [errW_none, errW_some] <;> rfl) | (simp [*, errW_none, errW_some] <;> rfl), by repeat (first | (with_reducible first | exact HB.out | apply below_alloc | apply pw_below_drewN | apply below_drew1 | refine below_set ?_ GE15001.out) | exact HB.out)⟩
  ·rw [if_neg c9] at H
   have c9b0 : decide (t15003 < 0) = false := decide_eq_false c9
   clear c9
   obtain rfl := Option.some.inj H
   go_enter Try.func15, Try.ntmps15
   go_wp2_with (first | ((with_reducible refine gate_dst (N := 2) rfl ?_); refine box_event ?hg (N := 2) ?hd (cs := #[.slice A0_0 l0_0.length c0_0, .slice A0_1 l0_1.length c0_1, .int .i64 a0_2]) (t := 25) ?hr ?_; (case hd => rfl); (case hg => rfl); (case hr => first | (go_simp; done) | (go_simp; rfl)); intro gb15001 hg w14 hbox hb; have n0_ := Aside0.mk (below_step (by repeat (first | (with_reducible first | exact HB.out | apply below_alloc | apply pw_below_drewN | apply below_drew1) | exact HB.out)) hb); have n1_ := Aside0.mk (hbox); have n2_ := Aside0.mk ((by rw [hg]; exact (below_size (by repeat (first | (with_reducible first | exact HB.out | apply below_alloc | apply pw_below_drewN | apply below_drew1) | exact HB.out))) : w.heap.size ≤ gb15001)); have n3_ := Aside0.mk ((by rw [hg]; exact (below_size (by repeat (first | (with_reducible first | exact HB.out | apply below_alloc | apply pw_below_drewN | apply below_drew1) | exact HB.out))) : w.heap.size ≤ gb15001)); clear HB; have HB := n0_; have BK15001 := n1_; have GW15001 := n2_; have GE15001 := n3_; clear n0_ n1_ n2_ n3_; clear hb hbox hg; have hcz15_0 : w14.cell? ⟨gb15001, 0, none⟩ = some (.slice A0_0 l0_0.length c0_0) := (blk_cell BK15001.out 0).trans rfl; have hcz15_1 : w14.cell? ⟨gb15001, 1, none⟩ = some (.slice A0_1 l0_1.length c0_1) := (blk_cell BK15001.out 1).trans rfl; have hcz15_2 : w14.cell? ⟨gb15001, 2, none⟩ = some (.int .i64 a0_2) := (blk_cell BK15001.out 2).trans rfl; have hfz15_0 := blk_frozen BK15001.out 0; have hfz15_1 := blk_frozen BK15001.out 1; have hfz15_2 := blk_frozen BK15001.out 2) | ((with_reducible refine gate_callee (f := 63) rfl ?_); refine goesL_ (some 8) rfl rfl Try.func63 (by kernel_rfl) rfl #[.slice A0_0 l0_0.length c0_0, .int .i64 a1] rfl (by (try simp only [List.map_toArray, List.map_cons, List.map_nil]); first | done | rfl | (simp only [List.length_drop, List.length_take]; rfl)) ?_; (with_reducible refine (laws_szNodeS.calls k _ _ l0_0 a1 t15002 _ ?side1 ?side2 A3.out).mono ?_); (case side1 => repeat (first | exact (Kd.C_below HR0_0.out HB.out) | (with_reducible refine Kd.C_alloc ?_ _) | (with_reducible refine Kd.C_drewN ?_ _) | (with_reducible refine Kd.C_drew ?_))); (case side2 => exact HC0_0.out); rintro e w16 ⟨rfl, hb⟩; refine ⟨_, rfl, ?_⟩; have n0_ := Aside0.mk (blk_below (g := gb15001) (o := .cells #[.slice A0_0 l0_0.length c0_0, .slice A0_1 l0_1.length c0_1, .int .i64 a0_2] 25 (0, 0)) (by (with_reducible repeat (first | refine blk_drewN ?_ _ | refine blk_drew ?_ | refine blk_alloc ?_ _)); exact BK15001.out) hb); have n1_ := Aside0.mk (below_step (by repeat (first | (with_reducible first | exact HB.out | apply below_alloc | apply pw_below_drewN | apply below_drew1 | refine below_set ?_ GE15001.out) | exact HB.out)) hb); clear BK15001; clear HB; have BK15001 := n0_; have HB := n1_; clear n0_ n1_; (try clear hb); (try clear hb2); (try clear hk); (try clear hi); have hcz17_0 : w16.cell? ⟨gb15001, 0, none⟩ = some (.slice A0_0 l0_0.length c0_0) := (blk_cell BK15001.out 0).trans rfl; have hcz17_1 : w16.cell? ⟨gb15001, 1, none⟩ = some (.slice A0_1 l0_1.length c0_1) := (blk_cell BK15001.out 1).trans rfl; have hcz17_2 : w16.cell? ⟨gb15001, 2, none⟩ = some (.int .i64 a0_2) := (blk_cell BK15001.out 2).trans rfl; have hfz17_0 := blk_frozen BK15001.out 0; have hfz17_1 := blk_frozen BK15001.out 1; have hfz17_2 := blk_frozen BK15001.out 2) | ((with_reducible refine gate_callee (f := 64) rfl ?_); refine goesL_ (some 14) rfl rfl Try.func64 (by kernel_rfl) rfl #[.slice A0_1 l0_1.length c0_1, .int .i64 t15002] rfl (by (try simp only [List.map_toArray, List.map_cons, List.map_nil]); first | done | rfl | (simp only [List.length_drop, List.length_take]; rfl)) ?_; (with_reducible refine (laws_szTieS.calls _ _ l0_1 t15002 t15003 _ ?side1 ?side2 A8.out).mono ?_); (case side1 => repeat (first | exact (Kd.C_below HR0_1.out HB.out) | (with_reducible refine Kd.C_alloc ?_ _) | (with_reducible refine Kd.C_drewN ?_ _) | (with_reducible refine Kd.C_drew ?_))); (case side2 => exact HC0_1.out); rintro e w' ⟨rfl, ⟨nd, rfl⟩⟩; refine ⟨_, rfl, ?_⟩))
   go_ret
   exact ⟨by first | rfl | (simp [errW_none, errW_some] <;> rfl) | (simp [*, errW_none, errW_some] <;> rfl), by repeat (first | (with_reducible first | exact HB.out | apply below_alloc | apply pw_below_drewN | apply below_drew1 | refine below_set ?_ GE15001.out) | exact HB.out)⟩

def laws_szChoice.f (l0_0 : List Int) (l0_1 : List Int) (a1 : Int) : Option (Int) := (laws_szIntS.f l0_0 a1).bind fun t16002 => (if t16002 < 0 then (some (-1)) else ((laws_szIntS.f l0_1 t16002).bind fun t16003 => (if t16003 < 0 then (some (-1)) else (some t16003))))
set_option maxHeartbeats 8000000 in
set_option maxRecDepth 100000 in
theorem laws_szChoice.calls (A0_0 : Option Addr) (c0_0 : Nat) (l0_0 : List Int) (A0_1 : Option Addr) (c0_1 : Nat) (l0_1 : List Int) (a1 : Int) (r : Int) (w : World) (hr0_0 : Kd.C (Kd.int .i64) w A0_0 l0_0.length l0_0) (hc0_0 : l0_0.length ≤ c0_0) (hr0_1 : Kd.C (Kd.int .i64) w A0_1 l0_1.length l0_1) (hc0_1 : l0_1.length ≤ c0_1) (h : laws_szChoice.f l0_0 l0_1 a1 = some r) :
  Calls Try.prog 16 #[.agg #[.slice A0_0 l0_0.length c0_0, .slice A0_1 l0_1.length c0_1], .int .i64 a1] w fun e w' => e = .returned (.int .i64 r) ∧ Below w.heap.size w w' := by
 have hu28 := Try.underlying28
 have HR0_0 := Aside0.mk hr0_0; have HC0_0 := Aside0.mk hc0_0; clear hr0_0 hc0_0; have HR0_1 := Aside0.mk hr0_1; have HC0_1 := Aside0.mk hc0_1; clear hr0_1 hc0_1
 have HB := Aside0.mk (Below.refl w.heap.size w)
 have H : ((laws_szIntS.f l0_0 a1).bind fun t16002 => (if t16002 < 0 then (some (-1)) else ((laws_szIntS.f l0_1 t16002).bind fun t16003 => (if t16003 < 0 then (some (-1)) else (some t16003))))) = some r := h
 clear h
 replace H := Option.bind_eq_some_iff.mp H
 obtain ⟨t16002, A30, H⟩ := H
 replace H : (if t16002 < 0 then (some (-1)) else ((laws_szIntS.f l0_1 t16002).bind fun t16003 => (if t16003 < 0 then (some (-1)) else (some t16003)))) = some r := H
 have A3 := Aside0.mk A30; clear A30
 by_cases c4 : t16002 < 0
 ·rw [if_pos c4] at H
  have c4b0 : decide (t16002 < 0) = true := decide_eq_true c4
  clear c4
  obtain rfl := Option.some.inj H
  go_enter Try.func16, Try.ntmps16
  go_wp2_with (first | ((with_reducible refine gate_dst (N := 2) rfl ?_); refine box_event ?hg (N := 2) ?hd (cs := #[.slice A0_0 l0_0.length c0_0, .slice A0_1 l0_1.length c0_1]) (t := 28) ?hr ?_; (case hd => rfl); (case hg => rfl); (case hr => first | (go_simp; done) | (go_simp; rfl)); intro gb16001 hg w5 hbox hb; have n0_ := Aside0.mk (below_step (by repeat (first | (with_reducible first | exact HB.out | apply below_alloc | apply pw_below_drewN | apply below_drew1) | exact HB.out)) hb); have n1_ := Aside0.mk (hbox); have n2_ := Aside0.mk ((by rw [hg]; exact (below_size (by repeat (first | (with_reducible first | exact HB.out | apply below_alloc | apply pw_below_drewN | apply below_drew1) | exact HB.out))) : w.heap.size ≤ gb16001)); have n3_ := Aside0.mk ((by rw [hg]; exact (below_size (by repeat (first | (with_reducible first | exact HB.out | apply below_alloc | apply pw_below_drewN | apply below_drew1) | exact HB.out))) : w.heap.size ≤ gb16001)); clear HB; have HB := n0_; have BK16001 := n1_; have GW16001 := n2_; have GE16001 := n3_; clear n0_ n1_ n2_ n3_; clear hb hbox hg; have hcz6_0 : w5.cell? ⟨gb16001, 0, none⟩ = some (.slice A0_0 l0_0.length c0_0) := (blk_cell BK16001.out 0).trans rfl; have hcz6_1 : w5.cell? ⟨gb16001, 1, none⟩ = some (.slice A0_1 l0_1.length c0_1) := (blk_cell BK16001.out 1).trans rfl; have hfz6_0 := blk_frozen BK16001.out 0; have hfz6_1 := blk_frozen BK16001.out 1) | ((with_reducible refine gate_callee (f := 65) rfl ?_); refine goesL_ (some 8) rfl rfl Try.func65 (by kernel_rfl) rfl #[.slice A0_0 l0_0.length c0_0, .int .i64 a1] rfl (by (try simp only [List.map_toArray, List.map_cons, List.map_nil]); first | done | rfl | (simp only [List.length_drop, List.length_take]; rfl)) ?_; (with_reducible refine (laws_szIntS.calls _ _ l0_0 a1 t16002 _ ?side1 ?side2 A3.out).mono ?_); (case side1 => repeat (first | exact (Kd.C_below HR0_0.out HB.out) | (with_reducible refine Kd.C_alloc ?_ _) | (with_reducible refine Kd.C_drewN ?_ _) | (with_reducible refine Kd.C_drew ?_))); (case side2 => exact HC0_0.out); rintro e w' ⟨rfl, ⟨nd, rfl⟩⟩; refine ⟨_, rfl, ?_⟩))
  go_ret
  exact ⟨by first | rfl | (simp [errW_none, errW_some] <;> rfl) | (simp [*, errW_none, errW_some] <;> rfl), by repeat (first | (with_reducible first | exact HB.out | apply below_alloc | apply pw_below_drewN | apply below_drew1 | refine below_set ?_ GE16001.out) | exact HB.out)⟩
 ·rw [if_neg c4] at H
  have c4b0 : decide (t16002 < 0) = false := decide_eq_false c4
  clear c4
  replace H := Option.bind_eq_some_iff.mp H
  obtain ⟨t16003, A70, H⟩ := H
  replace H : (if t16003 < 0 then (some (-1)) else (some t16003)) = some r := H
  have A7 := Aside0.mk A70; clear A70
  by_cases c8 : t16003 < 0
  ·rw [if_pos c8] at H
   have c8b0 : decide (t16003 < 0) = true := decide_eq_true c8
   clear c8
   obtain rfl := Option.some.inj H
   go_enter Try.func16, Try.ntmps16
   go_wp2_with (first | ((with_reducible refine gate_dst (N := 2) rfl ?_); refine box_event ?hg (N := 2) ?hd (cs := #[.slice A0_0 l0_0.length c0_0, .slice A0_1 l0_1.length c0_1]) (t := 28) ?hr ?_; (case hd => rfl); (case hg => rfl); (case hr => first | (go_simp; done) | (go_simp; rfl)); intro gb16001 hg w9 hbox hb; have n0_ := Aside0.mk (below_step (by repeat (first | (with_reducible first | exact HB.out | apply below_alloc | apply pw_below_drewN | apply below_drew1) | exact HB.out)) hb); have n1_ := Aside0.mk (hbox); have n2_ := Aside0.mk ((by rw [hg]; exact (below_size (by repeat (first | (with_reducible first | exact HB.out | apply below_alloc | apply pw_below_drewN | apply below_drew1) | exact HB.out))) : w.heap.size ≤ gb16001)); have n3_ := Aside0.mk ((by rw [hg]; exact (below_size (by repeat (first | (with_reducible first | exact HB.out | apply below_alloc | apply pw_below_drewN | apply below_drew1) | exact HB.out))) : w.heap.size ≤ gb16001)); clear HB; have HB := n0_; have BK16001 := n1_; have GW16001 := n2_; have GE16001 := n3_; clear n0_ n1_ n2_ n3_; clear hb hbox hg; have hcz10_0 : w9.cell? ⟨gb16001, 0, none⟩ = some (.slice A0_0 l0_0.length c0_0) := (blk_cell BK16001.out 0).trans rfl; have hcz10_1 : w9.cell? ⟨gb16001, 1, none⟩ = some (.slice A0_1 l0_1.length c0_1) := (blk_cell BK16001.out 1).trans rfl; have hfz10_0 := blk_frozen BK16001.out 0; have hfz10_1 := blk_frozen BK16001.out 1) | ((with_reducible refine gate_callee (f := 65) rfl ?_); refine goesL_ (some 8) rfl rfl Try.func65 (by kernel_rfl) rfl #[.slice A0_0 l0_0.length c0_0, .int .i64 a1] rfl (by (try simp only [List.map_toArray, List.map_cons, List.map_nil]); first | done | rfl | (simp only [List.length_drop, List.length_take]; rfl)) ?_; (with_reducible refine (laws_szIntS.calls _ _ l0_0 a1 t16002 _ ?side1 ?side2 A3.out).mono ?_); (case side1 => repeat (first | exact (Kd.C_below HR0_0.out HB.out) | (with_reducible refine Kd.C_alloc ?_ _) | (with_reducible refine Kd.C_drewN ?_ _) | (with_reducible refine Kd.C_drew ?_))); (case side2 => exact HC0_0.out); rintro e w' ⟨rfl, ⟨nd, rfl⟩⟩; refine ⟨_, rfl, ?_⟩) | ((with_reducible refine gate_callee (f := 65) rfl ?_); refine goesL_ (some 14) rfl rfl Try.func65 (by kernel_rfl) rfl #[.slice A0_1 l0_1.length c0_1, .int .i64 t16002] rfl (by (try simp only [List.map_toArray, List.map_cons, List.map_nil]); first | done | rfl | (simp only [List.length_drop, List.length_take]; rfl)) ?_; (with_reducible refine (laws_szIntS.calls _ _ l0_1 t16002 t16003 _ ?side1 ?side2 A7.out).mono ?_); (case side1 => repeat (first | exact (Kd.C_below HR0_1.out (by repeat (first | (with_reducible first | exact HB.out | apply below_alloc | apply pw_below_drewN | apply below_drew1 | refine below_set ?_ GE16001.out) | exact HB.out))) | (with_reducible refine Kd.C_alloc ?_ _) | (with_reducible refine Kd.C_drewN ?_ _) | (with_reducible refine Kd.C_drew ?_))); (case side2 => exact HC0_1.out); rintro e w' ⟨rfl, ⟨nd, rfl⟩⟩; refine ⟨_, rfl, ?_⟩))
   go_ret
   exact ⟨by first | rfl | (simp [errW_none, errW_some] <;> rfl) | (simp [*, errW_none, errW_some] <;> rfl), by repeat (first | (with_reducible first | exact HB.out | apply below_alloc | apply pw_below_drewN | apply below_drew1 | refine below_set ?_ GE16001.out) | exact HB.out)⟩
  ·rw [if_neg c8] at H
   have c8b0 : decide (t16003 < 0) = false := decide_eq_false c8
   clear c8
   obtain rfl := Option.some.inj H
   go_enter Try.func16, Try.ntmps16
   go_wp2_with (first | ((with_reducible refine gate_dst (N := 2) rfl ?_); refine box_event ?hg (N := 2) ?hd (cs := #[.slice A0_0 l0_0.length c0_0, .slice A0_1 l0_1.length c0_1]) (t := 28) ?hr ?_; (case hd => rfl); (case hg => rfl); (case hr => first | (go_simp; done) | (go_simp; rfl)); intro gb16001 hg w11 hbox hb; have n0_ := Aside0.mk (below_step (by repeat (first | (with_reducible first | exact HB.out | apply below_alloc | apply pw_below_drewN | apply below_drew1) | exact HB.out)) hb); have n1_ := Aside0.mk (hbox); have n2_ := Aside0.mk ((by rw [hg]; exact (below_size (by repeat (first | (with_reducible first | exact HB.out | apply below_alloc | apply pw_below_drewN | apply below_drew1) | exact HB.out))) : w.heap.size ≤ gb16001)); have n3_ := Aside0.mk ((by rw [hg]; exact (below_size (by repeat (first | (with_reducible first | exact HB.out | apply below_alloc | apply pw_below_drewN | apply below_drew1) | exact HB.out))) : w.heap.size ≤ gb16001)); clear HB; have HB := n0_; have BK16001 := n1_; have GW16001 := n2_; have GE16001 := n3_; clear n0_ n1_ n2_ n3_; clear hb hbox hg; have hcz12_0 : w11.cell? ⟨gb16001, 0, none⟩ = some (.slice A0_0 l0_0.length c0_0) := (blk_cell BK16001.out 0).trans rfl; have hcz12_1 : w11.cell? ⟨gb16001, 1, none⟩ = some (.slice A0_1 l0_1.length c0_1) := (blk_cell BK16001.out 1).trans rfl; have hfz12_0 := blk_frozen BK16001.out 0; have hfz12_1 := blk_frozen BK16001.out 1) | ((with_reducible refine gate_callee (f := 65) rfl ?_); refine goesL_ (some 8) rfl rfl Try.func65 (by kernel_rfl) rfl #[.slice A0_0 l0_0.length c0_0, .int .i64 a1] rfl (by (try simp only [List.map_toArray, List.map_cons, List.map_nil]); first | done | rfl | (simp only [List.length_drop, List.length_take]; rfl)) ?_; (with_reducible refine (laws_szIntS.calls _ _ l0_0 a1 t16002 _ ?side1 ?side2 A3.out).mono ?_); (case side1 => repeat (first | exact (Kd.C_below HR0_0.out HB.out) | (with_reducible refine Kd.C_alloc ?_ _) | (with_reducible refine Kd.C_drewN ?_ _) | (with_reducible refine Kd.C_drew ?_))); (case side2 => exact HC0_0.out); rintro e w' ⟨rfl, ⟨nd, rfl⟩⟩; refine ⟨_, rfl, ?_⟩) | ((with_reducible refine gate_callee (f := 65) rfl ?_); refine goesL_ (some 14) rfl rfl Try.func65 (by kernel_rfl) rfl #[.slice A0_1 l0_1.length c0_1, .int .i64 t16002] rfl (by (try simp only [List.map_toArray, List.map_cons, List.map_nil]); first | done | rfl | (simp only [List.length_drop, List.length_take]; rfl)) ?_; (with_reducible refine (laws_szIntS.calls _ _ l0_1 t16002 t16003 _ ?side1 ?side2 A7.out).mono ?_); (case side1 => repeat (first | exact (Kd.C_below HR0_1.out (by repeat (first | (with_reducible first | exact HB.out | apply below_alloc | apply pw_below_drewN | apply below_drew1 | refine below_set ?_ GE16001.out) | exact HB.out))) | (with_reducible refine Kd.C_alloc ?_ _) | (with_reducible refine Kd.C_drewN ?_ _) | (with_reducible refine Kd.C_drew ?_))); (case side2 => exact HC0_1.out); rintro e w' ⟨rfl, ⟨nd, rfl⟩⟩; refine ⟨_, rfl, ?_⟩))
   go_ret
   exact ⟨by first | rfl | (simp [errW_none, errW_some] <;> rfl) | (simp [*, errW_none, errW_some] <;> rfl), by repeat (first | (with_reducible first | exact HB.out | apply below_alloc | apply pw_below_drewN | apply below_drew1 | refine below_set ?_ GE16001.out) | exact HB.out)⟩

end Go.Proofs.Ytodfnelilhjoeaa.Pr
