/- The texts of one claim, put together by a program of this session. -/
import Derived.Test.YtodfnelilhjoeaaBSsc1x1
import Derived.Test.YtodfnelilhjoeaaBSsc1x2
import Derived.Test.YtodfnelilhjoeaaBSsc1x4
import Derived.Test.YtodfnelilhjoeaaBSsc1x6
namespace Go.Proofs.Ytodfnelilhjoeaa.Pr
open Go.RowKit Go.Proofs.YtodfnelilhjoeaaW.PrintWords Go.Proofs.YtodfnelilhjoeaaW.PrintLast Go.Proofs.YtodfnelilhjoeaaW.PrintMore
attribute [local go_sem] max2_int min2_int max_two min_two max_three min_three max_four min_four
set_option linter.unusedVariables false
set_option linter.unusedSimpArgs false
mutual
def spec_ShowOk.j0 : Nat → Bool → List (S116) → List (S90) → Int → Option (Bool)
 | 0, _, _, _, _ => none
 | k + 1, x18, x66002000, x66002001, x66002002 => if x18 = true then (some false) else (spec_ShowOk.l0 k (x66002001.length : Int) 0 x66002000 x66002001 x66002002)
def spec_ShowOk.l0 : Nat → Int → Int → List (S116) → List (S90) → Int → Option (Bool)
 | 0, _, _, _, _, _ => none
 | k + 1, x21, x22, x66002000, x66002001, x66002002 => if x22 < x21 then ((spec_l08Tie.f x66002000 x66002001 x66002002 x22).bind fun t66004 => (if t66004 = true then (spec_ShowOk.l0 k x21 (wrap64 (x22 + 1)) x66002000 x66002001 x66002002) else (some false))) else (some true)
end
def spec_ShowOk.f (k : Nat) (l0_0 : List (S116)) (l0_1 : List (S90)) (a0_2 : Int) : Option (Bool) := (spec_l08Nodes.f l0_0 l0_1 a0_2).bind fun t66002 => (if t66002 = true then (if (l0_1.length : Int) > 14 then (spec_ShowOk.j0 k true l0_0 l0_1 a0_2) else ((spec_l01In.f a0_2 1 10).bind fun t66003 => (spec_ShowOk.j0 k (!t66003) l0_0 l0_1 a0_2))) else (spec_ShowOk.j0 k true l0_0 l0_1 a0_2))
set_option maxHeartbeats 8000000 in
set_option maxRecDepth 100000 in
theorem spec_ShowOk.calls (k : Nat) (A0_0 : Option Addr) (c0_0 : Nat) (l0_0 : List (S116)) (A0_1 : Option Addr) (c0_1 : Nat) (l0_1 : List (S90)) (a0_2 : Int) (r : Bool) (w : World) (hr0_0 : Kd.C k116 w A0_0 l0_0.length l0_0) (hc0_0 : l0_0.length ≤ c0_0) (hr0_1 : Kd.C k90 w A0_1 l0_1.length l0_1) (hc0_1 : l0_1.length ≤ c0_1) (h : spec_ShowOk.f k l0_0 l0_1 a0_2 = some r) :
  Calls Try.prog 66 #[.agg #[.slice A0_0 l0_0.length c0_0, .slice A0_1 l0_1.length c0_1, .int .i64 a0_2]] w fun e w' => e = .returned (.bool r) ∧ Below w.heap.size w w' := by
 have hu35 := Try.underlying35
 have HR0_0 := Aside0.mk hr0_0; have HC0_0 := Aside0.mk hc0_0; clear hr0_0 hc0_0; have HR0_1 := Aside0.mk hr0_1; have HC0_1 := Aside0.mk hc0_1; clear hr0_1 hc0_1
 have HB := Aside0.mk (Below.refl w.heap.size w)
 have H : ((spec_l08Nodes.f l0_0 l0_1 a0_2).bind fun t66002 => (if t66002 = true then (if (l0_1.length : Int) > 14 then (spec_ShowOk.j0 k true l0_0 l0_1 a0_2) else ((spec_l01In.f a0_2 1 10).bind fun t66003 => (spec_ShowOk.j0 k (!t66003) l0_0 l0_1 a0_2))) else (spec_ShowOk.j0 k true l0_0 l0_1 a0_2))) = some r := h
 clear h; have HC2 := Aside0.mk H; clear H
 go_enter Try.func66, Try.ntmps66
 go_upto_region 1 with (first | ((with_reducible refine gate_dst (N := 1) rfl ?_); (try (refine gate_guard (by rfl) ?_; dsimp only)); refine box_event ?hg (N := 1) ?hd (cs := #[.slice A0_0 l0_0.length c0_0, .slice A0_1 l0_1.length c0_1, .int .i64 a0_2]) (t := 35) ?hr ?_; (case hd => rfl); (case hg => rfl); (case hr => first | (go_simp; done) | (go_simp; rfl)); intro gb66001 hg w3 hbox hb; have n0_ := Aside0.mk (below_step (by exact HB.out) hb); have n1_ := Aside0.mk (hbox); have n2_ := Aside0.mk ((by rw [hg]; exact (below_size (by exact HB.out)) : w.heap.size ≤ gb66001)); have n3_ := n2_; clear HB; have HB := n0_; have BK66001 := n1_; have GW66001 := n2_; have GE66001 := n3_; clear n0_ n1_ n2_ n3_; clear hb hbox hg))
 (try simp only [Act.put, List.setIfInBounds_toArray, List.set_cons_zero, List.set_cons_succ])
 go_cut [18] (fun v18 wc => ∃ (kq : Nat) (x18_1 : Bool), v18 = .bool x18_1 ∧ Aside0 (spec_ShowOk.j0 kq x18_1 l0_0 l0_1 a0_2 = some r) ∧ Aside0 (kq ≤ k) ∧ Aside0 (wc.heap[gb66001]? = some (.cells #[(.slice A0_0 l0_0.length c0_0), (.slice A0_1 l0_1.length c0_1), .int .i64 a0_2] 35 (0, 0))) ∧ Aside0 (Below w.heap.size w wc))
 case first =>
  have H := HC2.out
  clear HC2
  replace H := Option.bind_eq_some_iff.mp H
  obtain ⟨t66002, A40, H⟩ := H; have A4 := Aside0.mk A40; clear A40
  by_cases c5 : t66002 = true
  ·subst c5
   rw [if_pos rfl] at H
   by_cases c6 : (l0_1.length : Int) > 14
   ·rw [if_pos c6] at H
    have c6b0 : decide (14 < (l0_1.length : Int)) = true := decide_eq_true c6
    clear c6
    have H' := Aside0.mk H
    clear H
    have hcz7_0 : w3.cell? ⟨gb66001, 0, none⟩ = some (.slice A0_0 l0_0.length c0_0) := (blk_cell BK66001.out 0).trans rfl
    have hcz7_1 : w3.cell? ⟨gb66001, 1, none⟩ = some (.slice A0_1 l0_1.length c0_1) := (blk_cell BK66001.out 1).trans rfl
    have hcz7_2 : w3.cell? ⟨gb66001, 2, none⟩ = some (.int .i64 a0_2) := (blk_cell BK66001.out 2).trans rfl
    go_wp2_with (first | ((with_reducible refine gate_callee (f := 117) rfl ?_); refine goesL_ (some 5) rfl rfl Try.func117 (by kernel_rfl) rfl #[.agg #[.slice A0_0 l0_0.length c0_0, .slice A0_1 l0_1.length c0_1, .int .i64 a0_2]] rfl (by (try simp only [List.map_toArray, List.map_cons, List.map_nil]); first | done | rfl | (simp only [List.length_drop, List.length_take]; rfl)) ?_; (with_reducible refine (spec_l08Nodes.calls _ _ l0_0 _ _ l0_1 a0_2 true _ ?side1 ?side2 ?side3 ?side4 A4.out).mono ?_); (case side1 => exact (Kd.C_below HR0_0.out HB.out)); (case side2 => exact HC0_0.out); (case side3 => exact (Kd.C_below HR0_1.out HB.out)); (case side4 => exact HC0_1.out); rintro e w8 ⟨rfl, hb⟩; refine ⟨_, rfl, ?_⟩; have n0_ := Aside0.mk (blk_below BK66001.out hb); have n1_ := Aside0.mk (below_step (by exact HB.out) hb); clear BK66001; clear HB; have BK66001 := n0_; have HB := n1_; clear n0_ n1_; have hcz9_0 : w8.cell? ⟨gb66001, 0, none⟩ = some (.slice A0_0 l0_0.length c0_0) := (blk_cell BK66001.out 0).trans rfl; have hcz9_1 : w8.cell? ⟨gb66001, 1, none⟩ = some (.slice A0_1 l0_1.length c0_1) := (blk_cell BK66001.out 1).trans rfl; have hcz9_2 : w8.cell? ⟨gb66001, 2, none⟩ = some (.int .i64 a0_2) := (blk_cell BK66001.out 2).trans rfl))
    go_meet
    case rel => exact ⟨_, (true), (by first | rfl | (simp; done) | (simp [*]; done)), H', ⟨by first | omega | exact Nat.le_refl _⟩, ⟨by (with_reducible repeat (first | refine blk_drewN ?_ _ | refine blk_drew ?_ | refine blk_alloc ?_ _)); exact BK66001.out⟩, ⟨by repeat (first | (with_reducible first | exact HB.out | apply below_alloc | apply pw_below_drewN | apply below_drew1 | refine below_set ?_ GE66001.out) | exact HB.out)⟩⟩
   ·rw [if_neg c6] at H
    have c6b0 : decide (14 < (l0_1.length : Int)) = false := decide_eq_false c6
    clear c6
    replace H := Option.bind_eq_some_iff.mp H
    obtain ⟨t66003, A100, H⟩ := H; have A10 := Aside0.mk A100; clear A100
    have H' := Aside0.mk H
    clear H
    have hcz11_0 : w3.cell? ⟨gb66001, 0, none⟩ = some (.slice A0_0 l0_0.length c0_0) := (blk_cell BK66001.out 0).trans rfl
    have hcz11_1 : w3.cell? ⟨gb66001, 1, none⟩ = some (.slice A0_1 l0_1.length c0_1) := (blk_cell BK66001.out 1).trans rfl
    have hcz11_2 : w3.cell? ⟨gb66001, 2, none⟩ = some (.int .i64 a0_2) := (blk_cell BK66001.out 2).trans rfl
    go_wp2_with (first | ((with_reducible refine gate_callee (f := 117) rfl ?_); refine goesL_ (some 5) rfl rfl Try.func117 (by kernel_rfl) rfl #[.agg #[.slice A0_0 l0_0.length c0_0, .slice A0_1 l0_1.length c0_1, .int .i64 a0_2]] rfl (by (try simp only [List.map_toArray, List.map_cons, List.map_nil]); first | done | rfl | (simp only [List.length_drop, List.length_take]; rfl)) ?_; (with_reducible refine (spec_l08Nodes.calls _ _ l0_0 _ _ l0_1 a0_2 true _ ?side1 ?side2 ?side3 ?side4 A4.out).mono ?_); (case side1 => exact (Kd.C_below HR0_0.out HB.out)); (case side2 => exact HC0_0.out); (case side3 => exact (Kd.C_below HR0_1.out HB.out)); (case side4 => exact HC0_1.out); rintro e w12 ⟨rfl, hb⟩; refine ⟨_, rfl, ?_⟩; have n0_ := Aside0.mk (blk_below BK66001.out hb); have n1_ := Aside0.mk (below_step (by exact HB.out) hb); clear BK66001; clear HB; have BK66001 := n0_; have HB := n1_; clear n0_ n1_; have hcz13_0 : w12.cell? ⟨gb66001, 0, none⟩ = some (.slice A0_0 l0_0.length c0_0) := (blk_cell BK66001.out 0).trans rfl; have hcz13_1 : w12.cell? ⟨gb66001, 1, none⟩ = some (.slice A0_1 l0_1.length c0_1) := (blk_cell BK66001.out 1).trans rfl; have hcz13_2 : w12.cell? ⟨gb66001, 2, none⟩ = some (.int .i64 a0_2) := (blk_cell BK66001.out 2).trans rfl) | (go_at_call 68; (with_reducible refine (spec_l01In.calls a0_2 1 10 t66003 _ A10.out).mono ?_); rintro e w' ⟨rfl, ⟨nd, rfl⟩⟩))
    go_meet
    case rel => exact ⟨_, (!t66003), (by first | rfl | (simp; done) | (simp [*]; done)), H', ⟨by first | omega | exact Nat.le_refl _⟩, ⟨by (with_reducible repeat (first | refine blk_drewN ?_ _ | refine blk_drew ?_ | refine blk_alloc ?_ _)); exact BK66001.out⟩, ⟨by repeat (first | (with_reducible first | exact HB.out | apply below_alloc | apply pw_below_drewN | apply below_drew1 | refine below_set ?_ GE66001.out) | exact HB.out)⟩⟩
  ·replace c5 := Bool.eq_false_iff.mpr c5
   subst c5
   have H1 : (spec_ShowOk.j0 k true l0_0 l0_1 a0_2) = some r := by rw [if_neg (show ¬ (false = true) by decide)] at H; exact H
   clear H
   have H := H1
   clear H1
   have H' := Aside0.mk H
   clear H
   have hcz14_0 : w3.cell? ⟨gb66001, 0, none⟩ = some (.slice A0_0 l0_0.length c0_0) := (blk_cell BK66001.out 0).trans rfl
   have hcz14_1 : w3.cell? ⟨gb66001, 1, none⟩ = some (.slice A0_1 l0_1.length c0_1) := (blk_cell BK66001.out 1).trans rfl
   have hcz14_2 : w3.cell? ⟨gb66001, 2, none⟩ = some (.int .i64 a0_2) := (blk_cell BK66001.out 2).trans rfl
   go_wp2_with (first | ((with_reducible refine gate_callee (f := 117) rfl ?_); refine goesL_ (some 5) rfl rfl Try.func117 (by kernel_rfl) rfl #[.agg #[.slice A0_0 l0_0.length c0_0, .slice A0_1 l0_1.length c0_1, .int .i64 a0_2]] rfl (by (try simp only [List.map_toArray, List.map_cons, List.map_nil]); first | done | rfl | (simp only [List.length_drop, List.length_take]; rfl)) ?_; (with_reducible refine (spec_l08Nodes.calls _ _ l0_0 _ _ l0_1 a0_2 false _ ?side1 ?side2 ?side3 ?side4 A4.out).mono ?_); (case side1 => exact (Kd.C_below HR0_0.out HB.out)); (case side2 => exact HC0_0.out); (case side3 => exact (Kd.C_below HR0_1.out HB.out)); (case side4 => exact HC0_1.out); rintro e w15 ⟨rfl, hb⟩; refine ⟨_, rfl, ?_⟩; have n0_ := Aside0.mk (blk_below BK66001.out hb); have n1_ := Aside0.mk (below_step (by exact HB.out) hb); clear BK66001; clear HB; have BK66001 := n0_; have HB := n1_; clear n0_ n1_; (try clear hi)))
   go_meet
   case rel => exact ⟨_, (true), (by first | rfl | (simp; done) | (simp [*]; done)), H', ⟨by first | omega | exact Nat.le_refl _⟩, ⟨by (with_reducible repeat (first | refine blk_drewN ?_ _ | refine blk_drew ?_ | refine blk_alloc ?_ _)); exact BK66001.out⟩, ⟨by repeat (first | (with_reducible first | exact HB.out | apply below_alloc | apply pw_below_drewN | apply below_drew1 | refine below_set ?_ GE66001.out) | exact HB.out)⟩⟩
 case rest =>
  clear HC2
  try clear c1
  try clear p2
  try clear c5
  try clear c6
  try clear c6b0
  try clear c6b1
  try clear c11
  obtain ⟨kq, x18_1, rfl, HA, HJ1, BK66001, HB⟩ := hcut
  cases kq with
  | zero => exact absurd HA.out (by simp [spec_ShowOk.j0])
  | succ kj1 =>
   have H := HA.out
   clear HA
   simp only [spec_ShowOk.j0] at H
   by_cases c16 : x18_1 = true
   ·subst c16
    rw [if_pos rfl] at H
    obtain rfl := Option.some.inj H
    go_wp2
    go_ret
    exact ⟨by first | rfl | (simp [errW_none, errW_some] <;> rfl) | (simp [*, errW_none, errW_some] <;> rfl), by repeat (first | (with_reducible first | exact HB.out | apply below_alloc | apply pw_below_drewN | apply below_drew1 | refine below_set ?_ GE66001.out) | exact HB.out)⟩
   ·replace c16 := Bool.eq_false_iff.mpr c16
    subst c16
    have H1 : (spec_ShowOk.l0 kj1 (l0_1.length : Int) 0 l0_0 l0_1 a0_2) = some r := by rw [if_neg (show ¬ (false = true) by decide)] at H; exact H
    clear H
    have H := H1
    clear H1
    have H' := Aside0.mk H
    clear H
    have hcz17_0 : wc.cell? ⟨gb66001, 0, none⟩ = some (.slice A0_0 l0_0.length c0_0) := (blk_cell BK66001.out 0).trans rfl
    have hcz17_1 : wc.cell? ⟨gb66001, 1, none⟩ = some (.slice A0_1 l0_1.length c0_1) := (blk_cell BK66001.out 1).trans rfl
    have hcz17_2 : wc.cell? ⟨gb66001, 2, none⟩ = some (.int .i64 a0_2) := (blk_cell BK66001.out 2).trans rfl
    go_wp2
    go_loopg [22] kj1 (fun kq v22 w' => ∃ (x22_2 : Int), v22 = .int .i64 x22_2 ∧ Aside0 (spec_ShowOk.l0 kq (l0_1.length : Int) x22_2 l0_0 l0_1 a0_2 = some r) ∧ Aside0 (kq ≤ kj1) ∧ Aside0 (w'.heap[gb66001]? = some (.cells #[(.slice A0_0 l0_0.length c0_0), (.slice A0_1 l0_1.length c0_1), .int .i64 a0_2] 35 (0, 0))) ∧ Aside0 (Below w.heap.size w w'))
    case atStart => exact ⟨(0), (by first | rfl | (simp; done) | (simp [*]; done)), H', ⟨Nat.le_refl _⟩, ⟨by (with_reducible repeat (first | refine blk_drewN ?_ _ | refine blk_drew ?_ | refine blk_alloc ?_ _)); exact BK66001.out⟩, ⟨by repeat (first | (with_reducible first | exact HB.out | apply below_alloc | apply pw_below_drewN | apply below_drew1 | refine below_set ?_ GE66001.out) | exact HB.out)⟩⟩
    case round =>
     clear H'
     try clear c1
     try clear p2
     try clear c5
     try clear c6
     try clear c6b0
     try clear c6b1
     try clear c11
     try clear c16
     try clear p2
     obtain ⟨x22_2, rfl, HA, HK2, BK66001, HB⟩ := hrel
     cases gk with
     | zero => exact absurd HA.out (by simp [spec_ShowOk.l0])
     | succ k2 =>
      have H := HA.out
      clear HA
      simp only [spec_ShowOk.l0] at H
      by_cases c18 : x22_2 < (l0_1.length : Int)
      ·rw [if_pos c18] at H
       have c18b0 : decide (x22_2 < (l0_1.length : Int)) = true := decide_eq_true c18
       clear c18
       replace H := Option.bind_eq_some_iff.mp H
       obtain ⟨t66004, A190, H⟩ := H; have A19 := Aside0.mk A190; clear A190
       by_cases c20 : t66004 = true
       ·subst c20
        rw [if_pos rfl] at H
        have H' := Aside0.mk H
        clear H
        have hcz21_0 : wr.cell? ⟨gb66001, 0, none⟩ = some (.slice A0_0 l0_0.length c0_0) := (blk_cell BK66001.out 0).trans rfl
        have hcz21_1 : wr.cell? ⟨gb66001, 1, none⟩ = some (.slice A0_1 l0_1.length c0_1) := (blk_cell BK66001.out 1).trans rfl
        have hcz21_2 : wr.cell? ⟨gb66001, 2, none⟩ = some (.int .i64 a0_2) := (blk_cell BK66001.out 2).trans rfl
        go_wp2_with (first | ((with_reducible refine gate_callee (f := 118) rfl ?_); refine goesL_ (some 27) rfl rfl Try.func118 (by kernel_rfl) rfl #[.agg #[.slice A0_0 l0_0.length c0_0, .slice A0_1 l0_1.length c0_1, .int .i64 a0_2], .int .i64 x22_2] rfl (by (try simp only [List.map_toArray, List.map_cons, List.map_nil]); first | done | rfl | (simp only [List.length_drop, List.length_take]; rfl)) ?_; (with_reducible refine (spec_l08Tie.calls _ _ l0_0 _ _ l0_1 a0_2 x22_2 true _ ?side1 ?side2 ?side3 ?side4 A19.out).mono ?_); (case side1 => exact (Kd.C_below HR0_0.out HB.out)); (case side2 => exact HC0_0.out); (case side3 => exact (Kd.C_below HR0_1.out HB.out)); (case side4 => exact HC0_1.out); rintro e w22 ⟨rfl, hb⟩; refine ⟨_, rfl, ?_⟩; have n0_ := Aside0.mk (blk_below BK66001.out hb); have n1_ := Aside0.mk (below_step (by exact HB.out) hb); clear BK66001; clear HB; have BK66001 := n0_; have HB := n1_; clear n0_ n1_; (try clear hi)))
        go_roundg k2
        case measure => have := HJ1.out; have := HK2.out; omega
        case rel => exact ⟨(wrap64 (x22_2 + 1)), (by first | rfl | (simp; done) | (simp [*]; done)), H', ⟨by have := HJ1.out; have := HK2.out; omega⟩, ⟨by (with_reducible repeat (first | refine blk_drewN ?_ _ | refine blk_drew ?_ | refine blk_alloc ?_ _)); exact BK66001.out⟩, ⟨by repeat (first | (with_reducible first | exact HB.out | apply below_alloc | apply pw_below_drewN | apply below_drew1 | refine below_set ?_ GE66001.out) | exact HB.out)⟩⟩
       ·replace c20 := Bool.eq_false_iff.mpr c20
        subst c20
        have H1 : (some false) = some r := by rw [if_neg (show ¬ (false = true) by decide)] at H; exact H
        clear H
        have H := H1
        clear H1
        obtain rfl := Option.some.inj H
        have hcz23_0 : wr.cell? ⟨gb66001, 0, none⟩ = some (.slice A0_0 l0_0.length c0_0) := (blk_cell BK66001.out 0).trans rfl
        have hcz23_1 : wr.cell? ⟨gb66001, 1, none⟩ = some (.slice A0_1 l0_1.length c0_1) := (blk_cell BK66001.out 1).trans rfl
        have hcz23_2 : wr.cell? ⟨gb66001, 2, none⟩ = some (.int .i64 a0_2) := (blk_cell BK66001.out 2).trans rfl
        go_wp2_with (first | ((with_reducible refine gate_callee (f := 118) rfl ?_); refine goesL_ (some 27) rfl rfl Try.func118 (by kernel_rfl) rfl #[.agg #[.slice A0_0 l0_0.length c0_0, .slice A0_1 l0_1.length c0_1, .int .i64 a0_2], .int .i64 x22_2] rfl (by (try simp only [List.map_toArray, List.map_cons, List.map_nil]); first | done | rfl | (simp only [List.length_drop, List.length_take]; rfl)) ?_; (with_reducible refine (spec_l08Tie.calls _ _ l0_0 _ _ l0_1 a0_2 x22_2 false _ ?side1 ?side2 ?side3 ?side4 A19.out).mono ?_); (case side1 => exact (Kd.C_below HR0_0.out HB.out)); (case side2 => exact HC0_0.out); (case side3 => exact (Kd.C_below HR0_1.out HB.out)); (case side4 => exact HC0_1.out); rintro e w24 ⟨rfl, hb⟩; refine ⟨_, rfl, ?_⟩; have n0_ := Aside0.mk (blk_below BK66001.out hb); have n1_ := Aside0.mk (below_step (by exact HB.out) hb); clear BK66001; clear HB; have BK66001 := n0_; have HB := n1_; clear n0_ n1_; (try clear hi)))
        go_ret
        exact ⟨by first | rfl | (simp [errW_none, errW_some] <;> rfl) | (simp [*, errW_none, errW_some] <;> rfl), by repeat (first | (with_reducible first | exact HB.out | apply below_alloc | apply pw_below_drewN | apply below_drew1 | refine below_set ?_ GE66001.out) | exact HB.out)⟩
      ·rw [if_neg c18] at H
       have c18b0 : decide (x22_2 < (l0_1.length : Int)) = false := decide_eq_false c18
       clear c18
       obtain rfl := Option.some.inj H
       go_wp2
       go_ret
       exact ⟨by first | rfl | (simp [errW_none, errW_some] <;> rfl) | (simp [*, errW_none, errW_some] <;> rfl), by repeat (first | (with_reducible first | exact HB.out | apply below_alloc | apply pw_below_drewN | apply below_drew1 | refine below_set ?_ GE66001.out) | exact HB.out)⟩

def spec_StartState.l0 : Nat → Int → Int → Int → List Int → List Int → Option (Int × List Int × List Int)
 | 0, _, _, _, _, _ => none
 | k + 1, x14, x15, x45008000, x45008001, x45008002 => if x15 < x14 then (if x15 = 0 then (if x45008001.length < 17592186044416 then (spec_StartState.l0 k x14 (wrap64 (x15 + 1)) x45008000 (x45008001 ++ [0]) x45008002) else (none)) else (if x45008001.length < 17592186044416 then (spec_StartState.l0 k x14 (wrap64 (x15 + 1)) x45008000 (x45008001 ++ [(-1)]) x45008002) else (none))) else (some (x45008000, x45008001, x45008002))
def spec_StartState.f (k : Nat) (l0_0 : List (S116)) (l0_1 : List (S90)) (a0_2 : Int) : Option (Int × List Int × List Int) := (spec_ShowOk.f k l0_0 l0_1 a0_2).bind fun t45003 => (if t45003 = true then (if 3 ≤ 35184372088832 then (spec_StartState.l0 k (l0_0.length : Int) 0 0 ([] : List Int) (List.replicate 3 0)) else (none)) else (some (0, ([] : List Int), ([] : List Int))))
set_option maxHeartbeats 8000000 in
set_option maxRecDepth 100000 in
theorem spec_StartState.calls (k : Nat) (A0_0 : Option Addr) (c0_0 : Nat) (l0_0 : List (S116)) (A0_1 : Option Addr) (c0_1 : Nat) (l0_1 : List (S90)) (a0_2 : Int) (r1 : Int) (r2 : List Int) (r3 : List Int) (w : World) (hr0_0 : Kd.C k116 w A0_0 l0_0.length l0_0) (hc0_0 : l0_0.length ≤ c0_0) (hr0_1 : Kd.C k90 w A0_1 l0_1.length l0_1) (hc0_1 : l0_1.length ≤ c0_1) (h : spec_StartState.f k l0_0 l0_1 a0_2 = some (r1, r2, r3)) :
  Calls Try.prog 45 #[.agg #[.slice A0_0 l0_0.length c0_0, .slice A0_1 l0_1.length c0_1, .int .i64 a0_2]] w fun e w' => ∃ v1_ v2_ : Value, e = .returned (.agg #[.int .i64 r1, v1_, v2_]) ∧ Kd.R (Kd.int .i64) 3 w' w.heap.size (fun k_ => some k_ ≠ (v2_ : Value).ownBlock) v1_ r2 ∧ Kd.R (Kd.int .i64) 3 w' w.heap.size (fun k_ => some k_ ≠ (v1_ : Value).ownBlock) v2_ r3 ∧ Below w.heap.size w w' := by
 have hu35 := Try.underlying35
 have hu66 := Try.underlying66
 have HR0_0 := Aside0.mk hr0_0; have HC0_0 := Aside0.mk hc0_0; clear hr0_0 hc0_0; have HR0_1 := Aside0.mk hr0_1; have HC0_1 := Aside0.mk hc0_1; clear hr0_1 hc0_1
 have HB := Aside0.mk (Below.refl w.heap.size w)
 have H : ((spec_ShowOk.f k l0_0 l0_1 a0_2).bind fun t45003 => (if t45003 = true then (if 3 ≤ 35184372088832 then (spec_StartState.l0 k (l0_0.length : Int) 0 0 ([] : List Int) (List.replicate 3 0)) else (none)) else (some (0, ([] : List Int), ([] : List Int))))) = some (r1, r2, r3) := h
 clear h
 replace H := Option.bind_eq_some_iff.mp H
 obtain ⟨t45003, A20, H⟩ := H
 replace H : (if t45003 = true then (if 3 ≤ 35184372088832 then (spec_StartState.l0 k (l0_0.length : Int) 0 0 ([] : List Int) (List.replicate 3 0)) else (none)) else (some (0, ([] : List Int), ([] : List Int)))) = some (r1, r2, r3) := H
 have A2 := Aside0.mk A20; clear A20
 by_cases c3 : t45003 = true
 ·subst c3
  have H1 : (if 3 ≤ 35184372088832 then (spec_StartState.l0 k (l0_0.length : Int) 0 0 ([] : List Int) (List.replicate 3 0)) else (none)) = some (r1, r2, r3) := by rw [if_pos rfl] at H; exact H
  clear H
  have H := H1
  clear H1
  by_cases c4 : 3 ≤ 35184372088832
  ·rw [if_pos c4] at H
   have c4b0 := eq_true c4
   have c4b1 : decide (3 ≤ 35184372088832) = true := decide_eq_true c4
   clear c4
   obtain ⟨y45004, hy45004⟩ : ∃ y_ : List Int, y_ = (List.replicate 3 0) := ⟨_, rfl⟩
   replace H : (spec_StartState.l0 k (l0_0.length : Int) 0 0 ([] : List Int) y45004) = some (r1, r2, r3) := by first | (rw [hy45004]; with_reducible exact H) | (have H2_ := (Option.bind_some _ _).symm.trans H; rw [hy45004]; with_reducible exact H2_) | (have H2_ := (Option.bind_some _ _).symm.trans H; with_reducible exact H2_) | with_reducible exact H | (rw [hy45004]; exact H) | exact H
   have Ny45004 := Aside0.mk hy45004; clear hy45004
   have H' := Aside0.mk H
   clear H
   go_enter Try.func45, Try.ntmps45
   go_wp2_with (first | ((with_reducible refine gate_dst (N := 1) rfl ?_); refine box_event ?hg (N := 1) ?hd (cs := #[.slice A0_0 l0_0.length c0_0, .slice A0_1 l0_1.length c0_1, .int .i64 a0_2]) (t := 35) ?hr ?_; (case hd => rfl); (case hg => rfl); (case hr => first | (go_simp; done) | (go_simp; rfl)); intro gb45001 hg w5 hbox hb; have n0_ := Aside0.mk (below_step (by repeat (first | (with_reducible first | exact HB.out | apply below_alloc | apply pw_below_drewN | apply below_drew1) | exact HB.out)) hb); have n1_ := Aside0.mk (hbox); have n2_ := Aside0.mk ((by rw [hg]; exact (below_size (by repeat (first | (with_reducible first | exact HB.out | apply below_alloc | apply pw_below_drewN | apply below_drew1) | exact HB.out))) : w.heap.size ≤ gb45001)); have n3_ := Aside0.mk ((by rw [hg]; exact (below_size (by repeat (first | (with_reducible first | exact HB.out | apply below_alloc | apply pw_below_drewN | apply below_drew1) | exact HB.out))) : w.heap.size ≤ gb45001)); clear HB; have HB := n0_; have BK45001 := n1_; have GW45001 := n2_; have GE45001 := n3_; clear n0_ n1_ n2_ n3_; clear hb hbox hg) | ((with_reducible refine gate_dst (N := 2) rfl ?_); refine box_event ?hg (N := 2) ?hd (cs := #[.int .i64 0, .slice none 0 0, .slice none 0 0]) (t := 66) ?hr ?_; (case hd => rfl); (case hg => rfl); (case hr => first | (go_simp; done) | (go_simp; rfl)); intro gb45002 hg w6 hbox hb; have n0_ := Aside0.mk (blk_below (g := gb45001) (o := .cells #[.slice A0_0 l0_0.length c0_0, .slice A0_1 l0_1.length c0_1, .int .i64 a0_2] 35 (0, 0)) (by (with_reducible repeat (first | refine blk_drewN ?_ _ | refine blk_drew ?_ | refine blk_alloc ?_ _)); exact BK45001.out) hb); have n1_ := Aside0.mk (below_step (by repeat (first | (with_reducible first | exact HB.out | apply below_alloc | apply pw_below_drewN | apply below_drew1 | refine below_set ?_ GE45001.out) | exact HB.out)) hb); have n2_ := Aside0.mk (hbox); have n3_ := Aside0.mk ((by rw [hg]; exact (below_size (by repeat (first | (with_reducible first | exact HB.out | apply below_alloc | apply pw_below_drewN | apply below_drew1 | refine below_set ?_ GE45001.out) | exact HB.out))) : w.heap.size ≤ gb45002)); have n4_ := Aside0.mk ((by rw [hg]; exact (below_size (by repeat (first | (with_reducible first | exact HB.out | apply below_alloc | apply pw_below_drewN | apply below_drew1 | refine below_set ?_ GE45001.out) | exact HB.out))) : w.heap.size ≤ gb45002)); have n5_ := Aside0.mk ((by rw [hg]; exact Nat.ne_of_lt (blk_lt (g := gb45001) (o := .cells #[.slice A0_0 l0_0.length c0_0, .slice A0_1 l0_1.length c0_1, .int .i64 a0_2] 35 (0, 0)) (by (with_reducible repeat (first | refine blk_drewN ?_ _ | refine blk_drew ?_ | refine blk_alloc ?_ _)); exact BK45001.out)) : gb45001 ≠ gb45002)); have n6_ := Aside0.mk ((by rw [hg]; exact Nat.ne_of_gt (blk_lt (g := gb45001) (o := .cells #[.slice A0_0 l0_0.length c0_0, .slice A0_1 l0_1.length c0_1, .int .i64 a0_2] 35 (0, 0)) (by (with_reducible repeat (first | refine blk_drewN ?_ _ | refine blk_drew ?_ | refine blk_alloc ?_ _)); exact BK45001.out)) : gb45002 ≠ gb45001)); clear BK45001; clear HB; have BK45001 := n0_; have HB := n1_; have BK45002 := n2_; have GW45002 := n3_; have GE45002 := n4_; have NB45001_45002 := n5_; have NB45002_45001 := n6_; clear n0_ n1_ n2_ n3_ n4_ n5_ n6_; clear hb hbox hg; have hnb7 := NB45001_45002.out; have hnc7 := NB45002_45001.out; have hcz8_0 : w6.cell? ⟨gb45001, 0, none⟩ = some (.slice A0_0 l0_0.length c0_0) := (blk_cell BK45001.out 0).trans rfl; have hcz8_1 : w6.cell? ⟨gb45001, 1, none⟩ = some (.slice A0_1 l0_1.length c0_1) := (blk_cell BK45001.out 1).trans rfl; have hcz8_2 : w6.cell? ⟨gb45001, 2, none⟩ = some (.int .i64 a0_2) := (blk_cell BK45001.out 2).trans rfl; have hfz8_0 := blk_frozen BK45001.out 0; have hfz8_1 := blk_frozen BK45001.out 1; have hfz8_2 := blk_frozen BK45001.out 2) | ((with_reducible refine gate_callee (f := 66) rfl ?_); refine goesL_ (some 7) rfl rfl Try.func66 (by kernel_rfl) rfl #[.agg #[.slice A0_0 l0_0.length c0_0, .slice A0_1 l0_1.length c0_1, .int .i64 a0_2]] rfl (by (try simp only [List.map_toArray, List.map_cons, List.map_nil]); first | done | rfl | (simp only [List.length_drop, List.length_take]; rfl)) ?_; (with_reducible refine (spec_ShowOk.calls k _ _ l0_0 _ _ l0_1 a0_2 true _ ?side1 ?side2 ?side3 ?side4 A2.out).mono ?_); (case side1 => repeat (first | exact (Kd.C_below HR0_0.out HB.out) | (with_reducible refine Kd.C_alloc ?_ _) | (with_reducible refine Kd.C_drewN ?_ _) | (with_reducible refine Kd.C_drew ?_))); (case side2 => exact HC0_0.out); (case side3 => repeat (first | exact (Kd.C_below HR0_1.out HB.out) | (with_reducible refine Kd.C_alloc ?_ _) | (with_reducible refine Kd.C_drewN ?_ _) | (with_reducible refine Kd.C_drew ?_))); (case side4 => exact HC0_1.out); rintro e w9 ⟨rfl, hb⟩; refine ⟨_, rfl, ?_⟩; have n0_ := Aside0.mk (blk_below (g := gb45001) (o := .cells #[.slice A0_0 l0_0.length c0_0, .slice A0_1 l0_1.length c0_1, .int .i64 a0_2] 35 (0, 0)) (by (with_reducible repeat (first | refine blk_drewN ?_ _ | refine blk_drew ?_ | refine blk_alloc ?_ _)); exact BK45001.out) hb); have n1_ := Aside0.mk (blk_below (g := gb45002) (o := .cells #[.int .i64 0, .slice none 0 0, .slice none 0 0] 66 (0, 0)) (by (with_reducible repeat (first | refine blk_drewN ?_ _ | refine blk_drew ?_ | refine blk_alloc ?_ _)); exact BK45002.out) hb); have n2_ := Aside0.mk (below_step (by repeat (first | (with_reducible first | exact HB.out | apply below_alloc | apply pw_below_drewN | apply below_drew1 | refine below_set ?_ GE45001.out | refine below_set ?_ GE45002.out) | exact HB.out)) hb); clear BK45001; clear BK45002; clear HB; have BK45001 := n0_; have BK45002 := n1_; have HB := n2_; clear n0_ n1_ n2_; (try clear hb); (try clear hb2); (try clear hk); (try clear hi)) | ((with_reducible refine gate_dst (N := 10) rfl ?_); refine Kd.R_make (Kd.int .i64) _ 3 rfl (N := 10) rfl 26 _ _ rfl 3 rfl rfl Try.underlying26 (.int .i64 0) 8 info3 rfl (by decide) (by omega) 0 (ok := fun _ => True) (okp := fun _ => True) rfl (fun _ hk => hk) trivial (by omega) (by omega) (Below.refl _ _) (Nat.le_refl _) ?_; intro v45005 w10 ho11 hb hg_ hnew_; clear hg_ hnew_; (first | rw [← Ny45004.out] at ho11 | (simp only [Int.reduceToNat] at ho11; rw [← Ny45004.out] at ho11)); have n0_ := Aside0.mk (Kd.R_lower ho11 (below_size (by repeat (first | (with_reducible first | exact HB.out | apply below_alloc | apply pw_below_drewN | apply below_drew1 | refine below_set ?_ GE45001.out | refine below_set ?_ GE45002.out) | exact HB.out)))); have n1_ := Aside0.mk (blk_below (g := gb45001) (o := .cells #[.slice A0_0 l0_0.length c0_0, .slice A0_1 l0_1.length c0_1, .int .i64 a0_2] 35 (0, 0)) (by (with_reducible repeat (first | refine blk_drewN ?_ _ | refine blk_drew ?_ | refine blk_alloc ?_ _)); exact BK45001.out) hb); have n2_ := Aside0.mk (blk_below (g := gb45002) (o := .cells #[.int .i64 0, .slice none 0 0, .slice none 0 0] 66 (0, 0)) (by (with_reducible repeat (first | refine blk_drewN ?_ _ | refine blk_drew ?_ | refine blk_alloc ?_ _)); exact BK45002.out) hb); have n3_ := Aside0.mk (below_step (by repeat (first | (with_reducible first | exact HB.out | apply below_alloc | apply pw_below_drewN | apply below_drew1 | refine below_set ?_ GE45001.out | refine below_set ?_ GE45002.out) | exact HB.out)) hb); clear BK45001; clear BK45002; clear HB; have HO45006 := n0_; have BK45001 := n1_; have BK45002 := n2_; have HB := n3_; clear n0_ n1_ n2_ n3_; clear hb ho11; obtain ⟨Ao12, co12, eo12⟩ := Kd.R_slice HO45006.out; subst eo12) | ((with_reducible refine gate_dst (N := 3) rfl ?_); refine box_event ?hg (N := 3) ?hd (cs := #[.int .i64 0, .slice none 0 0, .slice none 0 0]) (t := 66) ?hr ?_; (case hd => rfl); (case hg => rfl); (case hr => first | (go_simp; done) | (go_simp; rfl)); intro gb45007 hg w13 hbox hb; have n0_ := Aside0.mk (Kd.R_below (by (with_reducible repeat (first | apply Kd.R_alloc | apply Kd.R_drewN | apply Kd.R_drew)); exact HO45006.out) hb); have n1_ := Aside0.mk (blk_below (g := gb45001) (o := .cells #[.slice A0_0 l0_0.length c0_0, .slice A0_1 l0_1.length c0_1, .int .i64 a0_2] 35 (0, 0)) (by (with_reducible repeat (first | refine blk_drewN ?_ _ | refine blk_drew ?_ | refine blk_alloc ?_ _)); exact BK45001.out) hb); have n2_ := Aside0.mk (blk_below (g := gb45002) (o := .cells #[.int .i64 0, .slice none 0 0, .slice none 0 0] 66 (0, 0)) (by (with_reducible repeat (first | refine blk_drewN ?_ _ | refine blk_drew ?_ | refine blk_alloc ?_ _)); exact BK45002.out) hb); have n3_ := Aside0.mk (below_step (by repeat (first | (with_reducible first | exact HB.out | apply below_alloc | apply pw_below_drewN | apply below_drew1 | refine below_set ?_ GE45001.out | refine below_set ?_ GE45002.out) | exact HB.out)) hb); have n4_ := Aside0.mk (hbox); have n5_ := Aside0.mk ((by rw [hg]; exact (below_size (by repeat (first | (with_reducible first | exact HB.out | apply below_alloc | apply pw_below_drewN | apply below_drew1 | refine below_set ?_ GE45001.out | refine below_set ?_ GE45002.out) | exact HB.out))) : w.heap.size ≤ gb45007)); have n6_ := Aside0.mk ((by rw [hg]; exact (below_size (by repeat (first | (with_reducible first | exact HB.out | apply below_alloc | apply pw_below_drewN | apply below_drew1 | refine below_set ?_ GE45001.out | refine below_set ?_ GE45002.out) | exact HB.out))) : w.heap.size ≤ gb45007)); have n7_ := Aside0.mk ((by rw [hg]; exact Nat.ne_of_lt (blk_lt (g := gb45001) (o := .cells #[.slice A0_0 l0_0.length c0_0, .slice A0_1 l0_1.length c0_1, .int .i64 a0_2] 35 (0, 0)) (by (with_reducible repeat (first | refine blk_drewN ?_ _ | refine blk_drew ?_ | refine blk_alloc ?_ _)); exact BK45001.out)) : gb45001 ≠ gb45007)); have n8_ := Aside0.mk ((by rw [hg]; exact Nat.ne_of_gt (blk_lt (g := gb45001) (o := .cells #[.slice A0_0 l0_0.length c0_0, .slice A0_1 l0_1.length c0_1, .int .i64 a0_2] 35 (0, 0)) (by (with_reducible repeat (first | refine blk_drewN ?_ _ | refine blk_drew ?_ | refine blk_alloc ?_ _)); exact BK45001.out)) : gb45007 ≠ gb45001)); have n9_ := Aside0.mk ((by rw [hg]; exact Nat.ne_of_lt (blk_lt (g := gb45002) (o := .cells #[.int .i64 0, .slice none 0 0, .slice none 0 0] 66 (0, 0)) (by (with_reducible repeat (first | refine blk_drewN ?_ _ | refine blk_drew ?_ | refine blk_alloc ?_ _)); exact BK45002.out)) : gb45002 ≠ gb45007)); have n10_ := Aside0.mk ((by rw [hg]; exact Nat.ne_of_gt (blk_lt (g := gb45002) (o := .cells #[.int .i64 0, .slice none 0 0, .slice none 0 0] 66 (0, 0)) (by (with_reducible repeat (first | refine blk_drewN ?_ _ | refine blk_drew ?_ | refine blk_alloc ?_ _)); exact BK45002.out)) : gb45007 ≠ gb45002)); clear HO45006; clear BK45001; clear BK45002; clear HB; have HO45006 := n0_; have BK45001 := n1_; have BK45002 := n2_; have HB := n3_; have BK45007 := n4_; have GW45007 := n5_; have GE45007 := n6_; have NB45001_45007 := n7_; have NB45007_45001 := n8_; have NB45002_45007 := n9_; have NB45007_45002 := n10_; clear n0_ n1_ n2_ n3_ n4_ n5_ n6_ n7_ n8_ n9_ n10_; clear hb hbox hg; have hnb14 := NB45007_45001.out; have hnc14 := NB45001_45007.out; have hnb15 := NB45007_45002.out; have hnc15 := NB45002_45007.out; have hcz16_0 : w13.cell? ⟨gb45007, 0, none⟩ = some (.int .i64 0) := (blk_cell BK45007.out 0).trans rfl; have hcz16_1 : w13.cell? ⟨gb45007, 1, none⟩ = some (.slice none 0 0) := (blk_cell BK45007.out 1).trans rfl; have hcz16_2 : w13.cell? ⟨gb45007, 2, none⟩ = some (.slice none 0 0) := (blk_cell BK45007.out 2).trans rfl; have hfz16_0 := blk_frozen BK45007.out 0; have hfz16_1 := blk_frozen BK45007.out 1; have hfz16_2 := blk_frozen BK45007.out 2; have hcz17_0 : w13.cell? ⟨gb45001, 0, none⟩ = some (.slice A0_0 l0_0.length c0_0) := (blk_cell BK45001.out 0).trans rfl; have hcz17_1 : w13.cell? ⟨gb45001, 1, none⟩ = some (.slice A0_1 l0_1.length c0_1) := (blk_cell BK45001.out 1).trans rfl; have hcz17_2 : w13.cell? ⟨gb45001, 2, none⟩ = some (.int .i64 a0_2) := (blk_cell BK45001.out 2).trans rfl; have hfz17_0 := blk_frozen BK45001.out 0; have hfz17_1 := blk_frozen BK45001.out 1; have hfz17_2 := blk_frozen BK45001.out 2))
   go_loopg [15] k (fun kq v15 w' => ∃ (x15_1 : Int) (x45008001_1 : List Int) (u45008001 : Value), v15 = .int .i64 x15_1 ∧ Aside0 (spec_StartState.l0 kq (l0_0.length : Int) x15_1 0 x45008001_1 y45004 = some (r1, r2, r3)) ∧ Aside0 (kq ≤ k) ∧ Aside0 (Kd.R (Kd.int .i64) 3 w' w.heap.size (fun k_ => some k_ ≠ ((.slice Ao12 y45004.length co12) : Value).ownBlock) u45008001 x45008001_1) ∧ Aside0 (Kd.R (Kd.int .i64) 3 w' w.heap.size (fun k_ => some k_ ≠ (u45008001 : Value).ownBlock) (.slice Ao12 y45004.length co12) y45004) ∧ Aside0 (w'.heap[gb45001]? = some (.cells #[(.slice A0_0 l0_0.length c0_0), (.slice A0_1 l0_1.length c0_1), .int .i64 a0_2] 35 (0, 0))) ∧ Aside0 (w'.heap[gb45002]? = some (.cells #[.int .i64 0, (.slice none 0 0), (.slice none 0 0)] 66 (0, 0))) ∧ Aside0 (w'.heap[gb45007]? = some (.cells #[.int .i64 0, u45008001, (.slice Ao12 y45004.length co12)] 66 (0, 0))) ∧ Aside0 (Below w.heap.size w w'))
   case atStart => exact ⟨(0), (([] : List Int)), (.slice none 0 0), (by first | rfl | (simp; done) | (simp [*]; done)), H', ⟨Nat.le_refl _⟩, ⟨by first | exact Kd.R_nil _ _ _ _ _ | exact Kd.N_nil _ _ _ _ _ | exact Kd.V_nil _ _ _ _ _ | exact Kd.Q_nil _ _ _ _ _ | exact Kd.S_nil _ _ _ _ _⟩, ⟨by (with_reducible repeat (first | apply Kd.R_alloc | apply Kd.R_drewN | apply Kd.R_drew)); exact Kd.R_mono (Kd.R_far (p := ⟨gb45007, 2, none⟩) (Kd.R_far (p := ⟨gb45007, 1, none⟩) (Kd.R_far (p := ⟨gb45007, 0, none⟩) (Kd.R_types HO45006.out BK45007.out (by decide)) (fun _ hk => hk.2) (.int .i64 0)) (fun _ hk => hk.2) (.slice none 0 0)) (fun _ hk => hk.2) (.slice Ao12 y45004.length co12)) (fun _ hk => (by simp [Value.ownBlock]))⟩, ⟨by (with_reducible repeat (first | refine blk_drewN ?_ _ | refine blk_drew ?_ | refine blk_alloc ?_ _)); refine blk_far ?_ NB45001_45007.out _; (with_reducible repeat (first | refine blk_drewN ?_ _ | refine blk_drew ?_ | refine blk_alloc ?_ _)); refine blk_far ?_ NB45001_45007.out _; (with_reducible repeat (first | refine blk_drewN ?_ _ | refine blk_drew ?_ | refine blk_alloc ?_ _)); refine blk_far ?_ NB45001_45007.out _; (with_reducible repeat (first | refine blk_drewN ?_ _ | refine blk_drew ?_ | refine blk_alloc ?_ _)); exact BK45001.out⟩, ⟨by (with_reducible repeat (first | refine blk_drewN ?_ _ | refine blk_drew ?_ | refine blk_alloc ?_ _)); refine blk_far ?_ NB45002_45007.out _; (with_reducible repeat (first | refine blk_drewN ?_ _ | refine blk_drew ?_ | refine blk_alloc ?_ _)); refine blk_far ?_ NB45002_45007.out _; (with_reducible repeat (first | refine blk_drewN ?_ _ | refine blk_drew ?_ | refine blk_alloc ?_ _)); refine blk_far ?_ NB45002_45007.out _; (with_reducible repeat (first | refine blk_drewN ?_ _ | refine blk_drew ?_ | refine blk_alloc ?_ _)); exact BK45002.out⟩, ⟨by (with_reducible repeat (first | refine blk_drewN ?_ _ | refine blk_drew ?_ | refine blk_alloc ?_ _)); refine blk_put (cs := #[.int .i64 0, .slice none 0 0, .slice none 0 0]) ?_ 2 _ rfl; (with_reducible repeat (first | refine blk_drewN ?_ _ | refine blk_drew ?_ | refine blk_alloc ?_ _)); refine blk_put (cs := #[.int .i64 0, .slice none 0 0, .slice none 0 0]) ?_ 1 _ rfl; (with_reducible repeat (first | refine blk_drewN ?_ _ | refine blk_drew ?_ | refine blk_alloc ?_ _)); refine blk_put (cs := #[.int .i64 0, .slice none 0 0, .slice none 0 0]) ?_ 0 _ rfl; (with_reducible repeat (first | refine blk_drewN ?_ _ | refine blk_drew ?_ | refine blk_alloc ?_ _)); exact BK45007.out⟩, ⟨by repeat (first | (with_reducible first | exact HB.out | apply below_alloc | apply pw_below_drewN | apply below_drew1 | refine below_set ?_ GE45001.out | refine below_set ?_ GE45002.out | refine below_set ?_ GE45007.out) | exact HB.out)⟩⟩
   case round =>
    clear H'
    try clear c1
    try clear p2
    try clear c3
    try clear c4
    try clear c4b0
    try clear c4b1
    try clear c6
    try clear c7
    try clear c14
    try clear c15
    try clear hcz16_0
    try clear hcz16_1
    try clear hcz16_2
    try clear hcz17_0
    try clear hcz17_1
    try clear hcz17_2
    try clear hcz8_0
    try clear hcz8_1
    try clear hcz8_2
    try clear hfz16_0
    try clear hfz16_1
    try clear hfz16_2
    try clear hfz17_0
    try clear hfz17_1
    try clear hfz17_2
    try clear hfz8_0
    try clear hfz8_1
    try clear hfz8_2
    obtain ⟨x15_1, x45008001_1, u45008001, rfl, HA, HK1, HO_45008001, HO_45008002, BK45001, BK45002, BK45007, HB⟩ := hrel
    cases gk with
    | zero => exact absurd HA.out (by simp [spec_StartState.l0])
    | succ k1 =>
     have H := HA.out
     clear HA
     simp only [spec_StartState.l0] at H
     by_cases c18 : x15_1 < (l0_0.length : Int)
     ·rw [if_pos c18] at H
      have c18b0 : decide (x15_1 < (l0_0.length : Int)) = true := decide_eq_true c18
      clear c18
      by_cases c19 : x15_1 = 0
      ·rw [if_pos c19] at H
       have c19b0 : (x15_1 == 0) = true := beq_iff_eq.mpr c19
       have c19b1 : (x15_1 != 0) = false := bne_eq_false_iff_eq.mpr c19
       clear c19
       by_cases c20 : x45008001_1.length < 17592186044416
       ·rw [if_pos c20] at H
        have LMc20 := Aside0.mk c20; clear c20
        obtain ⟨y45008, hy45008⟩ : ∃ y_ : List Int, y_ = (x45008001_1 ++ [0]) := ⟨_, rfl⟩
        replace H : (spec_StartState.l0 k1 (l0_0.length : Int) (wrap64 (x15_1 + 1)) 0 y45008 y45004) = some (r1, r2, r3) := by first | (rw [hy45008]; with_reducible exact H) | (have H2_ := (Option.bind_some _ _).symm.trans H; rw [hy45008]; with_reducible exact H2_) | (have H2_ := (Option.bind_some _ _).symm.trans H; with_reducible exact H2_) | with_reducible exact H | (rw [hy45008]; exact H) | exact H
        have Ny45008 := Aside0.mk hy45008; clear hy45008
        have H' := Aside0.mk H
        clear H
        have hnb21 := NB45007_45001.out
        have hnc21 := NB45001_45007.out
        have hnb22 := NB45007_45002.out
        have hnc22 := NB45002_45007.out
        have hcz23_0 : wr.cell? ⟨gb45007, 0, none⟩ = some (.int .i64 0) := (blk_cell BK45007.out 0).trans rfl
        have hcz23_1 : wr.cell? ⟨gb45007, 1, none⟩ = some (u45008001) := (blk_cell BK45007.out 1).trans rfl
        have hcz23_2 : wr.cell? ⟨gb45007, 2, none⟩ = some (.slice Ao12 y45004.length co12) := (blk_cell BK45007.out 2).trans rfl
        have hfz23_0 := blk_frozen BK45007.out 0
        have hfz23_1 := blk_frozen BK45007.out 1
        have hfz23_2 := blk_frozen BK45007.out 2
        go_wp2_with (first | ((with_reducible refine gate_builtin (b := .append) (xs := #[.tmp 21, .tmp 23]) rfl ?_); at_builtin; refine Kd.R_append (Kd.int .i64) (w0 := w) w.heap.size rfl (.tmp 21) (.tmp 23) 26 3 (.int .i64 0) 8 rfl Try.underlying26 info3 rfl (by decide) (by omega) u45008001 x45008001_1 0 [.int .i64 0] (fun k_ => some k_ ≠ (.slice Ao12 y45004.length co12 : Value).ownBlock) (fun _ => False) rfl rfl ?aP (fun _ hk => hk.elim) ?aF ?aO ?aB ?aS ?aL ?_; (case aP => exact rfl); (case aB => exact (by repeat (first | (with_reducible first | exact HB.out | apply below_alloc | apply pw_below_drewN | apply below_drew1 | refine below_set ?_ GE45001.out | refine below_set ?_ GE45002.out | refine below_set ?_ GE45007.out) | exact HB.out))); (case aF => exact (fun k_ hk => Kd.fresh' (Kd.R_lt (by (with_reducible repeat (first | apply Kd.R_alloc | apply Kd.R_drewN | apply Kd.R_drew)); exact HO_45008002.out)) k_ hk)); (case aO => exact (by (with_reducible repeat (first | apply Kd.R_alloc | apply Kd.R_drewN | apply Kd.R_drew)); exact HO_45008001.out)); (case aS => exact (below_size (by repeat (first | (with_reducible first | exact HB.out | apply below_alloc | apply pw_below_drewN | apply below_drew1 | refine below_set ?_ GE45001.out | refine below_set ?_ GE45002.out | refine below_set ?_ GE45007.out) | exact HB.out)))); (case aL => have := LMc20.out; omega); intro v45009 w24 ho hb hg hat; rw [← Ny45008.out] at ho; have n0_ := Aside0.mk (Kd.R_after (ok := (fun _ => True)) (by (with_reducible repeat (first | apply Kd.R_alloc | apply Kd.R_drewN | apply Kd.R_drew)); exact Kd.R_mono HO_45008002.out (fun _ hk => ⟨trivial, hk⟩)) hg hat); have n1_ := Aside0.mk (blk_grown (g := gb45001) (o := .cells #[.slice A0_0 l0_0.length c0_0, .slice A0_1 l0_1.length c0_1, .int .i64 a0_2] 35 (0, 0)) (by (with_reducible repeat (first | refine blk_drewN ?_ _ | refine blk_drew ?_ | refine blk_alloc ?_ _)); exact BK45001.out) hg (Kd.R_ne HO_45008001.out BK45001.out (by decide))); have n2_ := Aside0.mk (blk_grown (g := gb45002) (o := .cells #[.int .i64 0, .slice none 0 0, .slice none 0 0] 66 (0, 0)) (by (with_reducible repeat (first | refine blk_drewN ?_ _ | refine blk_drew ?_ | refine blk_alloc ?_ _)); exact BK45002.out) hg (Kd.R_ne HO_45008001.out BK45002.out (by decide))); have n3_ := Aside0.mk (blk_grown (g := gb45007) (o := .cells #[.int .i64 0, u45008001, .slice Ao12 y45004.length co12] 66 (0, 0)) (by (with_reducible repeat (first | refine blk_drewN ?_ _ | refine blk_drew ?_ | refine blk_alloc ?_ _)); exact BK45007.out) hg (Kd.R_ne HO_45008001.out BK45007.out (by decide))); have n4_ := Aside0.mk (hb); have n5_ := Aside0.mk (ho); clear HO_45008002; clear BK45001; clear BK45002; clear BK45007; clear HB; clear HO_45008001; have HO_45008002 := n0_; have BK45001 := n1_; have BK45002 := n2_; have BK45007 := n3_; have HB := n4_; have HO45010 := n5_; clear n0_ n1_ n2_ n3_ n4_ n5_; clear ho hb hg hat; obtain ⟨Ao25, co25, eo25⟩ := Kd.R_slice HO45010.out; subst eo25; have hcz26_0 : w24.cell? ⟨gb45007, 0, none⟩ = some (.int .i64 0) := (blk_cell BK45007.out 0).trans rfl; have hcz26_1 : w24.cell? ⟨gb45007, 1, none⟩ = some (u45008001) := (blk_cell BK45007.out 1).trans rfl; have hcz26_2 : w24.cell? ⟨gb45007, 2, none⟩ = some (.slice Ao12 y45004.length co12) := (blk_cell BK45007.out 2).trans rfl; have hfz26_0 := blk_frozen BK45007.out 0; have hfz26_1 := blk_frozen BK45007.out 1; have hfz26_2 := blk_frozen BK45007.out 2))
        go_roundg k1
        case measure => have := HK1.out; omega
        case rel => exact ⟨(wrap64 (x15_1 + 1)), (y45008), (.slice Ao25 y45008.length co25), (by first | rfl | (simp; done) | (simp [*]; done)), H', ⟨by have := HK1.out; omega⟩, ⟨by (with_reducible repeat (first | apply Kd.R_alloc | apply Kd.R_drewN | apply Kd.R_drew)); exact Kd.R_mono (Kd.R_far (p := ⟨gb45007, 1, none⟩) (Kd.R_types HO45010.out BK45007.out (by decide)) (fun _ hk => hk.2) (.slice Ao25 y45008.length co25)) (fun _ hk => hk.1)⟩, ⟨by (with_reducible repeat (first | apply Kd.R_alloc | apply Kd.R_drewN | apply Kd.R_drew)); exact Kd.R_mono (Kd.R_far (p := ⟨gb45007, 1, none⟩) (Kd.R_types HO_45008002.out BK45007.out (by decide)) (fun _ hk => hk.2) (.slice Ao25 y45008.length co25)) (fun _ hk => hk.1.2)⟩, ⟨by (with_reducible repeat (first | refine blk_drewN ?_ _ | refine blk_drew ?_ | refine blk_alloc ?_ _)); refine blk_far ?_ NB45001_45007.out _; (with_reducible repeat (first | refine blk_drewN ?_ _ | refine blk_drew ?_ | refine blk_alloc ?_ _)); exact BK45001.out⟩, ⟨by (with_reducible repeat (first | refine blk_drewN ?_ _ | refine blk_drew ?_ | refine blk_alloc ?_ _)); refine blk_far ?_ NB45002_45007.out _; (with_reducible repeat (first | refine blk_drewN ?_ _ | refine blk_drew ?_ | refine blk_alloc ?_ _)); exact BK45002.out⟩, ⟨by (with_reducible repeat (first | refine blk_drewN ?_ _ | refine blk_drew ?_ | refine blk_alloc ?_ _)); refine blk_put (cs := #[.int .i64 0, u45008001, .slice Ao12 y45004.length co12]) ?_ 1 _ rfl; (with_reducible repeat (first | refine blk_drewN ?_ _ | refine blk_drew ?_ | refine blk_alloc ?_ _)); exact BK45007.out⟩, ⟨by repeat (first | (with_reducible first | exact HB.out | apply below_alloc | apply pw_below_drewN | apply below_drew1 | refine below_set ?_ GE45001.out | refine below_set ?_ GE45002.out | refine below_set ?_ GE45007.out) | exact HB.out)⟩⟩
       ·rw [if_neg c20] at H
        exact absurd H (by simp)
      ·rw [if_neg c19] at H
       have c19b0 : (x15_1 == 0) = false := beq_eq_false_iff_ne.mpr c19
       have c19b1 : (x15_1 != 0) = true := bne_iff_ne.mpr c19
       by_cases c27 : x45008001_1.length < 17592186044416
       ·rw [if_pos c27] at H
        have LMc27 := Aside0.mk c27; clear c27
        obtain ⟨y45011, hy45011⟩ : ∃ y_ : List Int, y_ = (x45008001_1 ++ [(-1)]) := ⟨_, rfl⟩
        replace H : (spec_StartState.l0 k1 (l0_0.length : Int) (wrap64 (x15_1 + 1)) 0 y45011 y45004) = some (r1, r2, r3) := by first | (rw [hy45011]; with_reducible exact H) | (have H2_ := (Option.bind_some _ _).symm.trans H; rw [hy45011]; with_reducible exact H2_) | (have H2_ := (Option.bind_some _ _).symm.trans H; with_reducible exact H2_) | with_reducible exact H | (rw [hy45011]; exact H) | exact H
        have Ny45011 := Aside0.mk hy45011; clear hy45011
        have H' := Aside0.mk H
        clear H
        have hnb28 := NB45007_45001.out
        have hnc28 := NB45001_45007.out
        have hnb29 := NB45007_45002.out
        have hnc29 := NB45002_45007.out
        have hcz30_0 : wr.cell? ⟨gb45007, 0, none⟩ = some (.int .i64 0) := (blk_cell BK45007.out 0).trans rfl
        have hcz30_1 : wr.cell? ⟨gb45007, 1, none⟩ = some (u45008001) := (blk_cell BK45007.out 1).trans rfl
        have hcz30_2 : wr.cell? ⟨gb45007, 2, none⟩ = some (.slice Ao12 y45004.length co12) := (blk_cell BK45007.out 2).trans rfl
        have hfz30_0 := blk_frozen BK45007.out 0
        have hfz30_1 := blk_frozen BK45007.out 1
        have hfz30_2 := blk_frozen BK45007.out 2
        go_wp2_with (first | ((with_reducible refine gate_builtin (b := .append) (xs := #[.tmp 21, .tmp 23]) rfl ?_); at_builtin; refine Kd.R_append (Kd.int .i64) (w0 := w) w.heap.size rfl (.tmp 21) (.tmp 23) 26 3 (.int .i64 0) 8 rfl Try.underlying26 info3 rfl (by decide) (by omega) u45008001 x45008001_1 (-1) [.int .i64 (-1)] (fun k_ => some k_ ≠ (.slice Ao12 y45004.length co12 : Value).ownBlock) (fun _ => False) rfl rfl ?aP (fun _ hk => hk.elim) ?aF ?aO ?aB ?aS ?aL ?_; (case aP => exact rfl); (case aB => exact (by repeat (first | (with_reducible first | exact HB.out | apply below_alloc | apply pw_below_drewN | apply below_drew1 | refine below_set ?_ GE45001.out | refine below_set ?_ GE45002.out | refine below_set ?_ GE45007.out) | exact HB.out))); (case aF => exact (fun k_ hk => Kd.fresh' (Kd.R_lt (by (with_reducible repeat (first | apply Kd.R_alloc | apply Kd.R_drewN | apply Kd.R_drew)); exact HO_45008002.out)) k_ hk)); (case aO => exact (by (with_reducible repeat (first | apply Kd.R_alloc | apply Kd.R_drewN | apply Kd.R_drew)); exact HO_45008001.out)); (case aS => exact (below_size (by repeat (first | (with_reducible first | exact HB.out | apply below_alloc | apply pw_below_drewN | apply below_drew1 | refine below_set ?_ GE45001.out | refine below_set ?_ GE45002.out | refine below_set ?_ GE45007.out) | exact HB.out)))); (case aL => have := LMc27.out; omega); intro v45012 w31 ho hb hg hat; rw [← Ny45011.out] at ho; have n0_ := Aside0.mk (Kd.R_after (ok := (fun _ => True)) (by (with_reducible repeat (first | apply Kd.R_alloc | apply Kd.R_drewN | apply Kd.R_drew)); exact Kd.R_mono HO_45008002.out (fun _ hk => ⟨trivial, hk⟩)) hg hat); have n1_ := Aside0.mk (blk_grown (g := gb45001) (o := .cells #[.slice A0_0 l0_0.length c0_0, .slice A0_1 l0_1.length c0_1, .int .i64 a0_2] 35 (0, 0)) (by (with_reducible repeat (first | refine blk_drewN ?_ _ | refine blk_drew ?_ | refine blk_alloc ?_ _)); exact BK45001.out) hg (Kd.R_ne HO_45008001.out BK45001.out (by decide))); have n2_ := Aside0.mk (blk_grown (g := gb45002) (o := .cells #[.int .i64 0, .slice none 0 0, .slice none 0 0] 66 (0, 0)) (by (with_reducible repeat (first | refine blk_drewN ?_ _ | refine blk_drew ?_ | refine blk_alloc ?_ _)); exact BK45002.out) hg (Kd.R_ne HO_45008001.out BK45002.out (by decide))); have n3_ := Aside0.mk (blk_grown (g := gb45007) (o := .cells #[.int .i64 0, u45008001, .slice Ao12 y45004.length co12] 66 (0, 0)) (by (with_reducible repeat (first | refine blk_drewN ?_ _ | refine blk_drew ?_ | refine blk_alloc ?_ _)); exact BK45007.out) hg (Kd.R_ne HO_45008001.out BK45007.out (by decide))); have n4_ := Aside0.mk (hb); have n5_ := Aside0.mk (ho); clear HO_45008002; clear BK45001; clear BK45002; clear BK45007; clear HB; clear HO_45008001; have HO_45008002 := n0_; have BK45001 := n1_; have BK45002 := n2_; have BK45007 := n3_; have HB := n4_; have HO45013 := n5_; clear n0_ n1_ n2_ n3_ n4_ n5_; clear ho hb hg hat; obtain ⟨Ao32, co32, eo32⟩ := Kd.R_slice HO45013.out; subst eo32; have hcz33_0 : w31.cell? ⟨gb45007, 0, none⟩ = some (.int .i64 0) := (blk_cell BK45007.out 0).trans rfl; have hcz33_1 : w31.cell? ⟨gb45007, 1, none⟩ = some (u45008001) := (blk_cell BK45007.out 1).trans rfl; have hcz33_2 : w31.cell? ⟨gb45007, 2, none⟩ = some (.slice Ao12 y45004.length co12) := (blk_cell BK45007.out 2).trans rfl; have hfz33_0 := blk_frozen BK45007.out 0; have hfz33_1 := blk_frozen BK45007.out 1; have hfz33_2 := blk_frozen BK45007.out 2))
        go_roundg k1
        case measure => have := HK1.out; omega
        case rel => exact ⟨(wrap64 (x15_1 + 1)), (y45011), (.slice Ao32 y45011.length co32), (by first | rfl | (simp; done) | (simp [*]; done)), H', ⟨by have := HK1.out; omega⟩, ⟨by (with_reducible repeat (first | apply Kd.R_alloc | apply Kd.R_drewN | apply Kd.R_drew)); exact Kd.R_mono (Kd.R_far (p := ⟨gb45007, 1, none⟩) (Kd.R_types HO45013.out BK45007.out (by decide)) (fun _ hk => hk.2) (.slice Ao32 y45011.length co32)) (fun _ hk => hk.1)⟩, ⟨by (with_reducible repeat (first | apply Kd.R_alloc | apply Kd.R_drewN | apply Kd.R_drew)); exact Kd.R_mono (Kd.R_far (p := ⟨gb45007, 1, none⟩) (Kd.R_types HO_45008002.out BK45007.out (by decide)) (fun _ hk => hk.2) (.slice Ao32 y45011.length co32)) (fun _ hk => hk.1.2)⟩, ⟨by (with_reducible repeat (first | refine blk_drewN ?_ _ | refine blk_drew ?_ | refine blk_alloc ?_ _)); refine blk_far ?_ NB45001_45007.out _; (with_reducible repeat (first | refine blk_drewN ?_ _ | refine blk_drew ?_ | refine blk_alloc ?_ _)); exact BK45001.out⟩, ⟨by (with_reducible repeat (first | refine blk_drewN ?_ _ | refine blk_drew ?_ | refine blk_alloc ?_ _)); refine blk_far ?_ NB45002_45007.out _; (with_reducible repeat (first | refine blk_drewN ?_ _ | refine blk_drew ?_ | refine blk_alloc ?_ _)); exact BK45002.out⟩, ⟨by (with_reducible repeat (first | refine blk_drewN ?_ _ | refine blk_drew ?_ | refine blk_alloc ?_ _)); refine blk_put (cs := #[.int .i64 0, u45008001, .slice Ao12 y45004.length co12]) ?_ 1 _ rfl; (with_reducible repeat (first | refine blk_drewN ?_ _ | refine blk_drew ?_ | refine blk_alloc ?_ _)); exact BK45007.out⟩, ⟨by repeat (first | (with_reducible first | exact HB.out | apply below_alloc | apply pw_below_drewN | apply below_drew1 | refine below_set ?_ GE45001.out | refine below_set ?_ GE45002.out | refine below_set ?_ GE45007.out) | exact HB.out)⟩⟩
       ·rw [if_neg c27] at H
        exact absurd H (by simp)
     ·rw [if_neg c18] at H
      have c18b0 : decide (x15_1 < (l0_0.length : Int)) = false := decide_eq_false c18
      clear c18
      simp only [Option.some.injEq, Prod.mk.injEq] at H
      obtain ⟨rfl, rfl, rfl⟩ := H
      have hnb34 := NB45007_45001.out
      have hnc34 := NB45001_45007.out
      have hnb35 := NB45007_45002.out
      have hnc35 := NB45002_45007.out
      have hcz36_0 : wr.cell? ⟨gb45007, 0, none⟩ = some (.int .i64 0) := (blk_cell BK45007.out 0).trans rfl
      have hcz36_1 : wr.cell? ⟨gb45007, 1, none⟩ = some (u45008001) := (blk_cell BK45007.out 1).trans rfl
      have hcz36_2 : wr.cell? ⟨gb45007, 2, none⟩ = some (.slice Ao12 y45004.length co12) := (blk_cell BK45007.out 2).trans rfl
      have hfz36_0 := blk_frozen BK45007.out 0
      have hfz36_1 := blk_frozen BK45007.out 1
      have hfz36_2 := blk_frozen BK45007.out 2
      have hnb37 := NB45002_45001.out
      have hnc37 := NB45001_45002.out
      have hcz38_0 : wr.cell? ⟨gb45002, 0, none⟩ = some (.int .i64 0) := (blk_cell BK45002.out 0).trans rfl
      have hcz38_1 : wr.cell? ⟨gb45002, 1, none⟩ = some (.slice none 0 0) := (blk_cell BK45002.out 1).trans rfl
      have hcz38_2 : wr.cell? ⟨gb45002, 2, none⟩ = some (.slice none 0 0) := (blk_cell BK45002.out 2).trans rfl
      have hfz38_0 := blk_frozen BK45002.out 0
      have hfz38_1 := blk_frozen BK45002.out 1
      have hfz38_2 := blk_frozen BK45002.out 2
      obtain ⟨Ao39, co39, eo39⟩ := Kd.R_slice HO_45008001.out
      subst eo39
      go_wp2
      refine bodyPost_ret (results_cell_row rfl _ _ gb45002 66 #[.int .i64 0, .slice Ao39 x45008001_1.length co39, .slice Ao12 y45004.length co12] (0, 0) _ rfl (by (with_reducible repeat (first | refine blk_drewN ?_ _ | refine blk_drew ?_ | refine blk_alloc ?_ _)); refine blk_put (cs := #[.int .i64 0, .slice Ao39 x45008001_1.length co39, .slice none 0 0]) ?_ 2 _ rfl; (with_reducible repeat (first | refine blk_drewN ?_ _ | refine blk_drew ?_ | refine blk_alloc ?_ _)); refine blk_put (cs := #[.int .i64 0, .slice none 0 0, .slice none 0 0]) ?_ 1 _ rfl; (with_reducible repeat (first | refine blk_drewN ?_ _ | refine blk_drew ?_ | refine blk_alloc ?_ _)); refine blk_put (cs := #[.int .i64 0, .slice none 0 0, .slice none 0 0]) ?_ 0 _ rfl; (with_reducible repeat (first | refine blk_drewN ?_ _ | refine blk_drew ?_ | refine blk_alloc ?_ _)); exact BK45002.out) Try.underlying66 rfl (by kernel_rfl)) rfl ?_
      exact ⟨_, _, by first | rfl | (simp [errW_none, errW_some] <;> rfl) | (simp [*, errW_none, errW_some] <;> rfl), by (with_reducible repeat (first | apply Kd.R_alloc | apply Kd.R_drewN | apply Kd.R_drew)); exact Kd.R_mono (Kd.R_far (p := ⟨gb45002, 2, none⟩) (Kd.R_far (p := ⟨gb45002, 1, none⟩) (Kd.R_far (p := ⟨gb45002, 0, none⟩) (Kd.R_types HO_45008001.out BK45002.out (by decide)) (fun _ hk => hk.2) (.int .i64 0)) (fun _ hk => hk.2) (.slice Ao39 x45008001_1.length co39)) (fun _ hk => hk.2) (.slice Ao12 y45004.length co12)) (fun _ hk => hk.1), by (with_reducible repeat (first | apply Kd.R_alloc | apply Kd.R_drewN | apply Kd.R_drew)); exact Kd.R_mono (Kd.R_far (p := ⟨gb45002, 2, none⟩) (Kd.R_far (p := ⟨gb45002, 1, none⟩) (Kd.R_far (p := ⟨gb45002, 0, none⟩) (Kd.R_types HO_45008002.out BK45002.out (by decide)) (fun _ hk => hk.2) (.int .i64 0)) (fun _ hk => hk.2) (.slice Ao39 x45008001_1.length co39)) (fun _ hk => hk.2) (.slice Ao12 y45004.length co12)) (fun _ hk => hk.1), by repeat (first | (with_reducible first | exact HB.out | apply below_alloc | apply pw_below_drewN | apply below_drew1 | refine below_set ?_ GE45001.out | refine below_set ?_ GE45002.out | refine below_set ?_ GE45007.out) | exact HB.out)⟩
  ·rw [if_neg c4] at H
   exact absurd H (by simp)
 ·replace c3 := Bool.eq_false_iff.mpr c3
  subst c3
  have H1 : (some (0, ([] : List Int), ([] : List Int))) = some (r1, r2, r3) := by rw [if_neg (show ¬ (false = true) by decide)] at H; exact H
  clear H
  have H := H1
  clear H1
  simp only [Option.some.injEq, Prod.mk.injEq] at H
  obtain ⟨rfl, rfl, rfl⟩ := H
  go_enter Try.func45, Try.ntmps45
  go_wp2_with (first | ((with_reducible refine gate_dst (N := 1) rfl ?_); refine box_event ?hg (N := 1) ?hd (cs := #[.slice A0_0 l0_0.length c0_0, .slice A0_1 l0_1.length c0_1, .int .i64 a0_2]) (t := 35) ?hr ?_; (case hd => rfl); (case hg => rfl); (case hr => first | (go_simp; done) | (go_simp; rfl)); intro gb45001 hg w40 hbox hb; have n0_ := Aside0.mk (below_step (by repeat (first | (with_reducible first | exact HB.out | apply below_alloc | apply pw_below_drewN | apply below_drew1) | exact HB.out)) hb); have n1_ := Aside0.mk (hbox); have n2_ := Aside0.mk ((by rw [hg]; exact (below_size (by repeat (first | (with_reducible first | exact HB.out | apply below_alloc | apply pw_below_drewN | apply below_drew1) | exact HB.out))) : w.heap.size ≤ gb45001)); have n3_ := Aside0.mk ((by rw [hg]; exact (below_size (by repeat (first | (with_reducible first | exact HB.out | apply below_alloc | apply pw_below_drewN | apply below_drew1) | exact HB.out))) : w.heap.size ≤ gb45001)); clear HB; have HB := n0_; have BK45001 := n1_; have GW45001 := n2_; have GE45001 := n3_; clear n0_ n1_ n2_ n3_; clear hb hbox hg) | ((with_reducible refine gate_dst (N := 2) rfl ?_); refine box_event ?hg (N := 2) ?hd (cs := #[.int .i64 0, .slice none 0 0, .slice none 0 0]) (t := 66) ?hr ?_; (case hd => rfl); (case hg => rfl); (case hr => first | (go_simp; done) | (go_simp; rfl)); intro gb45002 hg w41 hbox hb; have n0_ := Aside0.mk (blk_below (g := gb45001) (o := .cells #[.slice A0_0 l0_0.length c0_0, .slice A0_1 l0_1.length c0_1, .int .i64 a0_2] 35 (0, 0)) (by (with_reducible repeat (first | refine blk_drewN ?_ _ | refine blk_drew ?_ | refine blk_alloc ?_ _)); exact BK45001.out) hb); have n1_ := Aside0.mk (below_step (by repeat (first | (with_reducible first | exact HB.out | apply below_alloc | apply pw_below_drewN | apply below_drew1 | refine below_set ?_ GE45001.out) | exact HB.out)) hb); have n2_ := Aside0.mk (hbox); have n3_ := Aside0.mk ((by rw [hg]; exact (below_size (by repeat (first | (with_reducible first | exact HB.out | apply below_alloc | apply pw_below_drewN | apply below_drew1 | refine below_set ?_ GE45001.out) | exact HB.out))) : w.heap.size ≤ gb45002)); have n4_ := Aside0.mk ((by rw [hg]; exact (below_size (by repeat (first | (with_reducible first | exact HB.out | apply below_alloc | apply pw_below_drewN | apply below_drew1 | refine below_set ?_ GE45001.out) | exact HB.out))) : w.heap.size ≤ gb45002)); have n5_ := Aside0.mk ((by rw [hg]; exact Nat.ne_of_lt (blk_lt (g := gb45001) (o := .cells #[.slice A0_0 l0_0.length c0_0, .slice A0_1 l0_1.length c0_1, .int .i64 a0_2] 35 (0, 0)) (by (with_reducible repeat (first | refine blk_drewN ?_ _ | refine blk_drew ?_ | refine blk_alloc ?_ _)); exact BK45001.out)) : gb45001 ≠ gb45002)); have n6_ := Aside0.mk ((by rw [hg]; exact Nat.ne_of_gt (blk_lt (g := gb45001) (o := .cells #[.slice A0_0 l0_0.length c0_0, .slice A0_1 l0_1.length c0_1, .int .i64 a0_2] 35 (0, 0)) (by (with_reducible repeat (first | refine blk_drewN ?_ _ | refine blk_drew ?_ | refine blk_alloc ?_ _)); exact BK45001.out)) : gb45002 ≠ gb45001)); clear BK45001; clear HB; have BK45001 := n0_; have HB := n1_; have BK45002 := n2_; have GW45002 := n3_; have GE45002 := n4_; have NB45001_45002 := n5_; have NB45002_45001 := n6_; clear n0_ n1_ n2_ n3_ n4_ n5_ n6_; clear hb hbox hg; have hnb42 := NB45001_45002.out; have hnc42 := NB45002_45001.out; have hcz43_0 : w41.cell? ⟨gb45001, 0, none⟩ = some (.slice A0_0 l0_0.length c0_0) := (blk_cell BK45001.out 0).trans rfl; have hcz43_1 : w41.cell? ⟨gb45001, 1, none⟩ = some (.slice A0_1 l0_1.length c0_1) := (blk_cell BK45001.out 1).trans rfl; have hcz43_2 : w41.cell? ⟨gb45001, 2, none⟩ = some (.int .i64 a0_2) := (blk_cell BK45001.out 2).trans rfl; have hfz43_0 := blk_frozen BK45001.out 0; have hfz43_1 := blk_frozen BK45001.out 1; have hfz43_2 := blk_frozen BK45001.out 2) | ((with_reducible refine gate_callee (f := 66) rfl ?_); refine goesL_ (some 7) rfl rfl Try.func66 (by kernel_rfl) rfl #[.agg #[.slice A0_0 l0_0.length c0_0, .slice A0_1 l0_1.length c0_1, .int .i64 a0_2]] rfl (by (try simp only [List.map_toArray, List.map_cons, List.map_nil]); first | done | rfl | (simp only [List.length_drop, List.length_take]; rfl)) ?_; (with_reducible refine (spec_ShowOk.calls k _ _ l0_0 _ _ l0_1 a0_2 false _ ?side1 ?side2 ?side3 ?side4 A2.out).mono ?_); (case side1 => repeat (first | exact (Kd.C_below HR0_0.out HB.out) | (with_reducible refine Kd.C_alloc ?_ _) | (with_reducible refine Kd.C_drewN ?_ _) | (with_reducible refine Kd.C_drew ?_))); (case side2 => exact HC0_0.out); (case side3 => repeat (first | exact (Kd.C_below HR0_1.out HB.out) | (with_reducible refine Kd.C_alloc ?_ _) | (with_reducible refine Kd.C_drewN ?_ _) | (with_reducible refine Kd.C_drew ?_))); (case side4 => exact HC0_1.out); rintro e w44 ⟨rfl, hb⟩; refine ⟨_, rfl, ?_⟩; have n0_ := Aside0.mk (blk_below (g := gb45001) (o := .cells #[.slice A0_0 l0_0.length c0_0, .slice A0_1 l0_1.length c0_1, .int .i64 a0_2] 35 (0, 0)) (by (with_reducible repeat (first | refine blk_drewN ?_ _ | refine blk_drew ?_ | refine blk_alloc ?_ _)); exact BK45001.out) hb); have n1_ := Aside0.mk (blk_below (g := gb45002) (o := .cells #[.int .i64 0, .slice none 0 0, .slice none 0 0] 66 (0, 0)) (by (with_reducible repeat (first | refine blk_drewN ?_ _ | refine blk_drew ?_ | refine blk_alloc ?_ _)); exact BK45002.out) hb); have n2_ := Aside0.mk (below_step (by repeat (first | (with_reducible first | exact HB.out | apply below_alloc | apply pw_below_drewN | apply below_drew1 | refine below_set ?_ GE45001.out | refine below_set ?_ GE45002.out) | exact HB.out)) hb); clear BK45001; clear BK45002; clear HB; have BK45001 := n0_; have BK45002 := n1_; have HB := n2_; clear n0_ n1_ n2_; (try clear hb); (try clear hb2); (try clear hk); (try clear hi); have hcz45_0 : w44.cell? ⟨gb45002, 0, none⟩ = some (.int .i64 0) := (blk_cell BK45002.out 0).trans rfl; have hcz45_1 : w44.cell? ⟨gb45002, 1, none⟩ = some (.slice none 0 0) := (blk_cell BK45002.out 1).trans rfl; have hcz45_2 : w44.cell? ⟨gb45002, 2, none⟩ = some (.slice none 0 0) := (blk_cell BK45002.out 2).trans rfl; have hfz45_0 := blk_frozen BK45002.out 0; have hfz45_1 := blk_frozen BK45002.out 1; have hfz45_2 := blk_frozen BK45002.out 2))
  refine bodyPost_ret (results_cell_row rfl _ _ gb45002 66 #[.int .i64 0, .slice none 0 0, .slice none 0 0] (0, 0) _ rfl (by (with_reducible repeat (first | refine blk_drewN ?_ _ | refine blk_drew ?_ | refine blk_alloc ?_ _)); refine blk_put (cs := #[.int .i64 0, .slice none 0 0, .slice none 0 0]) ?_ 2 _ rfl; (with_reducible repeat (first | refine blk_drewN ?_ _ | refine blk_drew ?_ | refine blk_alloc ?_ _)); refine blk_put (cs := #[.int .i64 0, .slice none 0 0, .slice none 0 0]) ?_ 1 _ rfl; (with_reducible repeat (first | refine blk_drewN ?_ _ | refine blk_drew ?_ | refine blk_alloc ?_ _)); refine blk_put (cs := #[.int .i64 0, .slice none 0 0, .slice none 0 0]) ?_ 0 _ rfl; (with_reducible repeat (first | refine blk_drewN ?_ _ | refine blk_drew ?_ | refine blk_alloc ?_ _)); exact BK45002.out) Try.underlying66 rfl (by kernel_rfl)) rfl ?_
  exact ⟨_, _, by first | rfl | (simp [errW_none, errW_some] <;> rfl) | (simp [*, errW_none, errW_some] <;> rfl), by first | exact Kd.R_nil _ _ _ _ _ | exact Kd.N_nil _ _ _ _ _ | exact Kd.V_nil _ _ _ _ _ | exact Kd.Q_nil _ _ _ _ _ | exact Kd.S_nil _ _ _ _ _, by first | exact Kd.R_nil _ _ _ _ _ | exact Kd.N_nil _ _ _ _ _ | exact Kd.V_nil _ _ _ _ _ | exact Kd.Q_nil _ _ _ _ _ | exact Kd.S_nil _ _ _ _ _, by repeat (first | (with_reducible first | exact HB.out | apply below_alloc | apply pw_below_drewN | apply below_drew1 | refine below_set ?_ GE45001.out | refine below_set ?_ GE45002.out) | exact HB.out)⟩

theorem spec_StartState.c (k : Nat) (A0_0 : Option Addr) (c0_0 : Nat) (l0_0 : List (S116)) (A0_1 : Option Addr) (c0_1 : Nat) (l0_1 : List (S90)) (a0_2 : Int) (r1 : Int) (r2 : List Int) (r3 : List Int) (w : World) (hr0_0 : Kd.C k116 w A0_0 l0_0.length l0_0) (hc0_0 : l0_0.length ≤ c0_0) (hr0_1 : Kd.C k90 w A0_1 l0_1.length l0_1) (hc0_1 : l0_1.length ≤ c0_1) (h : spec_StartState.f k l0_0 l0_1 a0_2 = some (r1, r2, r3)) :
  Calls Try.prog 45 #[.agg #[.slice A0_0 l0_0.length c0_0, .slice A0_1 l0_1.length c0_1, .int .i64 a0_2]] w fun e w' => ∃ A0_ c0_ A1_ c1_, e = .returned (.agg #[.int .i64 r1, .slice A0_ r2.length c0_, .slice A1_ r3.length c1_]) ∧ Aside0 (r2.length ≤ c0_ ∧ Kd.C (Kd.int .i64) w' A0_ r2.length r2) ∧ Aside0 (r3.length ≤ c1_ ∧ Kd.C (Kd.int .i64) w' A1_ r3.length r3) ∧ Below w.heap.size w w' :=
 (spec_StartState.calls k A0_0 c0_0 l0_0 A0_1 c0_1 l0_1 a0_2 r1 r2 r3 w hr0_0 hc0_0 hr0_1 hc0_1 h).mono fun e w' ⟨v1_, v2_, he, q0_, q1_, hb⟩ => by
  obtain ⟨A0_, c0_, rfl, g0_⟩ := Kd.R_reads q0_
  obtain ⟨A1_, c1_, rfl, g1_⟩ := Kd.R_reads q1_
  exact ⟨A0_, c0_, A1_, c1_, he, ⟨g0_⟩, ⟨g1_⟩, hb⟩

def bits_Mul64.f (a0 : Int) (a1 : Int) : Option (Int × Int) := some (IntKind.u64.wrap ((IntKind.u64.wrap ((IntKind.u64.wrap ((a0 / 4294967296) * (a1 / 4294967296))) + ((IntKind.u64.wrap ((IntKind.u64.wrap ((a0 / 4294967296) * (Go.bits .and .u64 a1 4294967295))) + ((IntKind.u64.wrap ((Go.bits .and .u64 a0 4294967295) * (Go.bits .and .u64 a1 4294967295))) / 4294967296))) / 4294967296))) + ((IntKind.u64.wrap ((Go.bits .and .u64 (IntKind.u64.wrap ((IntKind.u64.wrap ((a0 / 4294967296) * (Go.bits .and .u64 a1 4294967295))) + ((IntKind.u64.wrap ((Go.bits .and .u64 a0 4294967295) * (Go.bits .and .u64 a1 4294967295))) / 4294967296))) 4294967295) + (IntKind.u64.wrap ((Go.bits .and .u64 a0 4294967295) * (a1 / 4294967296))))) / 4294967296)), IntKind.u64.wrap (a0 * a1))
set_option maxHeartbeats 8000000 in
set_option maxRecDepth 100000 in
theorem bits_Mul64.calls (a0 : Int) (a1 : Int) (r1 : Int) (r2 : Int) (w : World) (h : bits_Mul64.f a0 a1 = some (r1, r2)) :
  Calls Try.prog 171 #[.int .u64 a0, .int .u64 a1] w fun e w' => e = .returned (.tuple #[.int .u64 r1, .int .u64 r2]) ∧ Drawn0 w w' := by
 have H : (some (IntKind.u64.wrap ((IntKind.u64.wrap ((IntKind.u64.wrap ((a0 / 4294967296) * (a1 / 4294967296))) + ((IntKind.u64.wrap ((IntKind.u64.wrap ((a0 / 4294967296) * (Go.bits .and .u64 a1 4294967295))) + ((IntKind.u64.wrap ((Go.bits .and .u64 a0 4294967295) * (Go.bits .and .u64 a1 4294967295))) / 4294967296))) / 4294967296))) + ((IntKind.u64.wrap ((Go.bits .and .u64 (IntKind.u64.wrap ((IntKind.u64.wrap ((a0 / 4294967296) * (Go.bits .and .u64 a1 4294967295))) + ((IntKind.u64.wrap ((Go.bits .and .u64 a0 4294967295) * (Go.bits .and .u64 a1 4294967295))) / 4294967296))) 4294967295) + (IntKind.u64.wrap ((Go.bits .and .u64 a0 4294967295) * (a1 / 4294967296))))) / 4294967296)), IntKind.u64.wrap (a0 * a1))) = some (r1, r2) := h
 clear h
 simp only [Option.some.injEq, Prod.mk.injEq] at H
 obtain ⟨rfl, rfl⟩ := H
 go_enter Try.func171, Try.ntmps171
 go_wp2
 go_ret2
 exact ⟨by first | rfl | (simp; done) | (simp [*]; done), by repeat (first | exact Drawn0.refl _ | apply Drawn0.step)⟩

def bits_Mul.f (a0 : Int) (a1 : Int) : Option (Int × Int) := (bits_Mul64.f a0 a1).bind fun bt144001 => (some (bt144001.1, bt144001.2))
set_option maxHeartbeats 8000000 in
set_option maxRecDepth 100000 in
theorem bits_Mul.calls (a0 : Int) (a1 : Int) (r1 : Int) (r2 : Int) (w : World) (h : bits_Mul.f a0 a1 = some (r1, r2)) :
  Calls Try.prog 144 #[.int .u64 a0, .int .u64 a1] w fun e w' => e = .returned (.tuple #[.int .u64 r1, .int .u64 r2]) ∧ Drawn0 w w' := by
 have H : ((bits_Mul64.f a0 a1).bind fun bt144001 => (some (bt144001.1, bt144001.2))) = some (r1, r2) := h
 clear h
 replace H := Option.bind_eq_some_iff.mp H
 obtain ⟨⟨t144001, t144002⟩, A30, H⟩ := H
 replace H : (some (t144001, t144002)) = some (r1, r2) := H
 have A3 := Aside0.mk A30; clear A30
 simp only [Option.some.injEq, Prod.mk.injEq] at H
 obtain ⟨rfl, rfl⟩ := H
 go_enter Try.func144, Try.ntmps144
 go_wp2_with (first | ((with_reducible refine gate_callee (f := 171) rfl ?_); refine goesL_ (some 25) rfl rfl Try.func171 (by kernel_rfl) rfl #[.int .u64 a0, .int .u64 a1] rfl (by (try simp only [List.map_toArray, List.map_cons, List.map_nil]); first | done | rfl | (simp only [List.length_drop, List.length_take]; rfl)) ?_; (with_reducible refine (bits_Mul64.calls a0 a1 t144001 t144002 _ A3.out).mono ?_); rintro e w' ⟨rfl, ⟨nd, rfl⟩⟩; refine ⟨_, rfl, ?_⟩))
 go_ret2
 exact ⟨by first | rfl | (simp; done) | (simp [*]; done), by repeat (first | exact Drawn0.refl _ | apply Drawn0.step)⟩

end Go.Proofs.Ytodfnelilhjoeaa.Pr
