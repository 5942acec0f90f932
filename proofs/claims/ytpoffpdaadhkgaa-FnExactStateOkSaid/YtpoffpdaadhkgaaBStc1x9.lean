/- The texts of one claim, put together by a program of this session. -/
import Derived.Deep.LoopGhost
import Derived.Shelf.Abstract
import Derived.Test.YtpoffpdaadhkgaaBStc1x1
import Derived.Test.YtpoffpdaadhkgaaBStc1x3
import Derived.Test.YtpoffpdaadhkgaaBStc1x4
import Derived.Test.YtpoffpdaadhkgaaBStc1x8
namespace Go.Proofs.Ytpoffpdaadhkgaa.Pr
open Go.RowKit Go.Proofs.YtpoffpdaadhkgaaW.PrintWords Go.Proofs.YtpoffpdaadhkgaaW.PrintLast Go.Proofs.YtpoffpdaadhkgaaW.PrintMore
attribute [local go_sem] max2_int min2_int max_two min_two max_three min_three max_four min_four
set_option linter.unusedVariables false
set_option linter.unusedSimpArgs false

/-! ### impl_isState: function 112 -/
mutual
def impl_isState.j0 : Nat → Bool → List (S120) → List (S126) → Int → Int → List Int → List Int → Option (Bool)
  | 0, _, _, _, _, _, _, _ => none
  | k + 1, x35, x112002000, x112002001, x112002002, x112003000, x112003001, x112003002 => if x35 = true then (some false) else (impl_isState.l0 k x112003001 (x112003001.length : Int) 0 x112002000 x112002001 x112002002 x112003000 x112003001 x112003002)
def impl_isState.l0 : Nat → List Int → Int → Int → List (S120) → List (S126) → Int → Int → List Int → List Int → Option (Bool)
  | 0, _, _, _, _, _, _, _, _, _ => none
  | k + 1, x37, x38, x39, x112002000, x112002001, x112002002, x112003000, x112003001, x112003002 => if x39 < x38 then (if 0 ≤ x39 then (if x39 < (x37.length : Int) then (if x39 = 0 then (if (rd x37 x39) = 0 then (if x39 > 0 then (if (rd x37 x39) < (-1) then (some false) else (if (rd x37 x39) > (wrap64 (x112003000 - 1)) then (some false) else (impl_isState.l0 k x37 x38 (wrap64 (x39 + 1)) x112002000 x112002001 x112002002 x112003000 x112003001 x112003002))) else (impl_isState.l0 k x37 x38 (wrap64 (x39 + 1)) x112002000 x112002001 x112002002 x112003000 x112003001 x112003002)) else (some false)) else (if x39 > 0 then (if (rd x37 x39) < (-1) then (some false) else (if (rd x37 x39) > (wrap64 (x112003000 - 1)) then (some false) else (impl_isState.l0 k x37 x38 (wrap64 (x39 + 1)) x112002000 x112002001 x112002002 x112003000 x112003001 x112003002))) else (impl_isState.l0 k x37 x38 (wrap64 (x39 + 1)) x112002000 x112002001 x112002002 x112003000 x112003001 x112003002))) else (none)) else (none)) else (impl_isState.l1 k x112003002 (x112003002.length : Int) 0 x112002000 x112002001 x112002002 x112003000 x112003001 x112003002)
def impl_isState.l1 : Nat → List Int → Int → Int → List (S120) → List (S126) → Int → Int → List Int → List Int → Option (Bool)
  | 0, _, _, _, _, _, _, _, _, _ => none
  | k + 1, x67, x68, x69, x112002000, x112002001, x112002002, x112003000, x112003001, x112003002 => if x69 < x68 then (if 0 ≤ x69 then (if x69 < (x67.length : Int) then ((impl_watcher.f x112002000 x112002001 x112002002 (wrap64 (x69 + 1))).bind fun t112006 => (if t112006 ≥ 0 then (if 0 ≤ t112006 then (if t112006 < (x112003001.length : Int) then (if (((rd x67 x69) != 0) != ((rd x112003001 t112006) != (-1))) = true then (some false) else (impl_isState.l1 k x67 x68 (wrap64 (x69 + 1)) x112002000 x112002001 x112002002 x112003000 x112003001 x112003002)) else (none)) else (none)) else (if (((rd x67 x69) != 0) != false) = true then (some false) else (impl_isState.l1 k x67 x68 (wrap64 (x69 + 1)) x112002000 x112002001 x112002002 x112003000 x112003001 x112003002)))) else (none)) else (none)) else (some true)
end
def impl_isState.f (k : Nat) (l0_0 : List (S120)) (l0_1 : List (S126)) (a0_2 : Int) (a1_0 : Int) (l1_1 : List Int) (l1_2 : List Int) : Option (Bool) := if a1_0 < 0 then (impl_isState.j0 k true l0_0 l0_1 a0_2 a1_0 l1_1 l1_2) else (if a1_0 > (wrap64 (a0_2 + 1)) then (impl_isState.j0 k true l0_0 l0_1 a0_2 a1_0 l1_1 l1_2) else (if (l1_1.length : Int) = (l0_0.length : Int) then ((impl_ValuesOk.f l1_2).bind fun t112003 => (impl_isState.j0 k (!t112003) l0_0 l0_1 a0_2 a1_0 l1_1 l1_2)) else (impl_isState.j0 k true l0_0 l0_1 a0_2 a1_0 l1_1 l1_2)))
set_option maxHeartbeats 8000000 in
set_option maxRecDepth 100000 in
theorem impl_isState.calls (k : Nat) (A0_0 : Option Addr) (c0_0 : Nat) (l0_0 : List (S120)) (A0_1 : Option Addr) (c0_1 : Nat) (l0_1 : List (S126)) (a0_2 : Int) (a1_0 : Int) (A1_1 : Option Addr) (c1_1 : Nat) (l1_1 : List Int) (A1_2 : Option Addr) (c1_2 : Nat) (l1_2 : List Int) (r : Bool) (w : World) (hr0_0 : Kd.C k120 w A0_0 l0_0.length l0_0) (hc0_0 : l0_0.length ≤ c0_0) (hr0_1 : Kd.C k126 w A0_1 l0_1.length l0_1) (hc0_1 : l0_1.length ≤ c0_1) (hr1_1 : Kd.C (Kd.int .i64) w A1_1 l1_1.length l1_1) (hc1_1 : l1_1.length ≤ c1_1) (hr1_2 : Kd.C (Kd.int .i64) w A1_2 l1_2.length l1_2) (hc1_2 : l1_2.length ≤ c1_2) (h : impl_isState.f k l0_0 l0_1 a0_2 a1_0 l1_1 l1_2 = some r) :
    Calls Try.prog 112 #[.agg #[.slice A0_0 l0_0.length c0_0, .slice A0_1 l0_1.length c0_1, .int .i64 a0_2], .agg #[.int .i64 a1_0, .slice A1_1 l1_1.length c1_1, .slice A1_2 l1_2.length c1_2]] w fun e w' => e = .returned (.bool r) ∧ Below w.heap.size w w' := by
  have hu66 := Try.underlying66
  have hu80 := Try.underlying80
  have HR0_0 := Aside0.mk hr0_0
  have HC0_0 := Aside0.mk hc0_0
  clear hr0_0 hc0_0
  have HR0_1 := Aside0.mk hr0_1
  have HC0_1 := Aside0.mk hc0_1
  clear hr0_1 hc0_1
  have HR1_1 := Aside0.mk hr1_1
  have HC1_1 := Aside0.mk hc1_1
  clear hr1_1 hc1_1
  have HR1_2 := Aside0.mk hr1_2
  have HC1_2 := Aside0.mk hc1_2
  clear hr1_2 hc1_2
  have HB := Aside0.mk (Below.refl w.heap.size w)
  have H : (if a1_0 < 0 then (impl_isState.j0 k true l0_0 l0_1 a0_2 a1_0 l1_1 l1_2) else (if a1_0 > (wrap64 (a0_2 + 1)) then (impl_isState.j0 k true l0_0 l0_1 a0_2 a1_0 l1_1 l1_2) else (if (l1_1.length : Int) = (l0_0.length : Int) then ((impl_ValuesOk.f l1_2).bind fun t112003 => (impl_isState.j0 k (!t112003) l0_0 l0_1 a0_2 a1_0 l1_1 l1_2)) else (impl_isState.j0 k true l0_0 l0_1 a0_2 a1_0 l1_1 l1_2)))) = some r := h
  clear h
  have HC3 := Aside0.mk H
  clear H
  go_enter Try.func112, Try.ntmps112
  go_upto_region 1 with (first | ((with_reducible refine gate_dst (N := 2) rfl ?_); (try (refine gate_guard (by rfl) ?_; dsimp only)); refine box_event ?hg (N := 2) ?hd (cs := #[.slice A0_0 l0_0.length c0_0, .slice A0_1 l0_1.length c0_1, .int .i64 a0_2]) (t := 66) ?hr ?_; (case hd => rfl); (case hg => rfl); (case hr => first | (go_simp; done) | (go_simp; rfl)); intro gb112001 hg w4 hbox hb; have n0_ := Aside0.mk (below_step (by repeat (first | (with_reducible first | exact HB.out | apply below_alloc | apply pw_below_drewN | apply below_drew1) | exact HB.out)) hb); have n1_ := Aside0.mk (hbox); have n2_ := Aside0.mk ((by rw [hg]; exact (below_size (by repeat (first | (with_reducible first | exact HB.out | apply below_alloc | apply pw_below_drewN | apply below_drew1) | exact HB.out))) : w.heap.size ≤ gb112001)); have n3_ := Aside0.mk ((by rw [hg]; exact (below_size (by repeat (first | (with_reducible first | exact HB.out | apply below_alloc | apply pw_below_drewN | apply below_drew1) | exact HB.out))) : w.heap.size ≤ gb112001)); clear HB; have HB := n0_; have BK112001 := n1_; have GW112001 := n2_; have GE112001 := n3_; clear n0_ n1_ n2_ n3_; clear hb hbox hg) | ((with_reducible refine gate_dst (N := 3) rfl ?_); (try (refine gate_guard (by rfl) ?_; dsimp only)); refine box_event ?hg (N := 3) ?hd (cs := #[.int .i64 a1_0, .slice A1_1 l1_1.length c1_1, .slice A1_2 l1_2.length c1_2]) (t := 80) ?hr ?_; (case hd => rfl); (case hg => rfl); (case hr => first | (go_simp; done) | (go_simp; rfl)); intro gb112002 hg w5 hbox hb; have n0_ := Aside0.mk (blk_below (g := gb112001) (o := .cells #[.slice A0_0 l0_0.length c0_0, .slice A0_1 l0_1.length c0_1, .int .i64 a0_2] 66 (0, 0)) (by (with_reducible repeat (first | refine blk_drewN ?_ _ | refine blk_drew ?_ | refine blk_alloc ?_ _)); exact BK112001.out) hb); have n1_ := Aside0.mk (below_step (by repeat (first | (with_reducible first | exact HB.out | apply below_alloc | apply pw_below_drewN | apply below_drew1 | refine below_set ?_ GE112001.out) | exact HB.out)) hb); have n2_ := Aside0.mk (hbox); have n3_ := Aside0.mk ((by rw [hg]; exact (below_size (by repeat (first | (with_reducible first | exact HB.out | apply below_alloc | apply pw_below_drewN | apply below_drew1 | refine below_set ?_ GE112001.out) | exact HB.out))) : w.heap.size ≤ gb112002)); have n4_ := Aside0.mk ((by rw [hg]; exact (below_size (by repeat (first | (with_reducible first | exact HB.out | apply below_alloc | apply pw_below_drewN | apply below_drew1 | refine below_set ?_ GE112001.out) | exact HB.out))) : w.heap.size ≤ gb112002)); have n5_ := Aside0.mk ((by rw [hg]; exact Nat.ne_of_lt (blk_lt (g := gb112001) (o := .cells #[.slice A0_0 l0_0.length c0_0, .slice A0_1 l0_1.length c0_1, .int .i64 a0_2] 66 (0, 0)) (by (with_reducible repeat (first | refine blk_drewN ?_ _ | refine blk_drew ?_ | refine blk_alloc ?_ _)); exact BK112001.out)) : gb112001 ≠ gb112002)); have n6_ := Aside0.mk ((by rw [hg]; exact Nat.ne_of_gt (blk_lt (g := gb112001) (o := .cells #[.slice A0_0 l0_0.length c0_0, .slice A0_1 l0_1.length c0_1, .int .i64 a0_2] 66 (0, 0)) (by (with_reducible repeat (first | refine blk_drewN ?_ _ | refine blk_drew ?_ | refine blk_alloc ?_ _)); exact BK112001.out)) : gb112002 ≠ gb112001)); clear BK112001; clear HB; have BK112001 := n0_; have HB := n1_; have BK112002 := n2_; have GW112002 := n3_; have GE112002 := n4_; have NB112001_112002 := n5_; have NB112002_112001 := n6_; clear n0_ n1_ n2_ n3_ n4_ n5_ n6_; clear hb hbox hg))
  (try simp only [Act.put, List.setIfInBounds_toArray, List.set_cons_zero, List.set_cons_succ])
  go_cut [35] (fun v35 wc => ∃ (kq : Nat) (x35_2 : Bool), v35 = .bool x35_2 ∧ Aside0 (impl_isState.j0 kq x35_2 l0_0 l0_1 a0_2 a1_0 l1_1 l1_2 = some r) ∧ Aside0 (kq ≤ k) ∧ Aside0 (wc.heap[gb112001]? = some (.cells #[(.slice A0_0 l0_0.length c0_0), (.slice A0_1 l0_1.length c0_1), .int .i64 a0_2] 66 (0, 0))) ∧ Aside0 (wc.heap[gb112002]? = some (.cells #[.int .i64 a1_0, (.slice A1_1 l1_1.length c1_1), (.slice A1_2 l1_2.length c1_2)] 80 (0, 0))) ∧ Aside0 (Below w.heap.size w wc))
  case first =>
    have H := HC3.out
    clear HC3
    by_cases c6 : a1_0 < 0
    · rw [if_pos c6] at H
      have c6b0 : decide (a1_0 < 0) = true := decide_eq_true c6
      clear c6
      (first | rw [c6b0] | (simp only [i64_w, i32_w]; rw [c6b0]) | skip)
      have H' := Aside0.mk H
      clear H
      have hnb7 := NB112002_112001.out
      have hnc7 := NB112001_112002.out
      have hcz8_0 : w5.cell? ⟨gb112002, 0, none⟩ = some (.int .i64 a1_0) := (blk_cell BK112002.out 0).trans rfl
      have hcz8_1 : w5.cell? ⟨gb112002, 1, none⟩ = some (.slice A1_1 l1_1.length c1_1) := (blk_cell BK112002.out 1).trans rfl
      have hcz8_2 : w5.cell? ⟨gb112002, 2, none⟩ = some (.slice A1_2 l1_2.length c1_2) := (blk_cell BK112002.out 2).trans rfl
      have hfz8_0 := blk_frozen BK112002.out 0
      have hfz8_1 := blk_frozen BK112002.out 1
      have hfz8_2 := blk_frozen BK112002.out 2
      go_wp2
      go_meet
      case rel => exact ⟨_, (true), (by first | rfl | (simp; done) | (simp [*]; done)), H', ⟨by first | omega | exact Nat.le_refl _⟩, ⟨by (with_reducible repeat (first | refine blk_drewN ?_ _ | refine blk_drew ?_ | refine blk_alloc ?_ _)); exact BK112001.out⟩, ⟨by (with_reducible repeat (first | refine blk_drewN ?_ _ | refine blk_drew ?_ | refine blk_alloc ?_ _)); exact BK112002.out⟩, ⟨by repeat (first | (with_reducible first | exact HB.out | apply below_alloc | apply pw_below_drewN | apply below_drew1 | refine below_set ?_ GE112001.out | refine below_set ?_ GE112002.out) | exact HB.out)⟩⟩
    · rw [if_neg c6] at H
      have c6b0 : decide (a1_0 < 0) = false := decide_eq_false c6
      clear c6
      (first | rw [c6b0] | (simp only [i64_w, i32_w]; rw [c6b0]) | skip)
      by_cases c9 : a1_0 > (wrap64 (a0_2 + 1))
      · rw [if_pos c9] at H
        have c9b0 : decide ((wrap64 (a0_2 + 1)) < a1_0) = true := decide_eq_true c9
        clear c9
        have H' := Aside0.mk H
        clear H
        have hnb10 := NB112002_112001.out
        have hnc10 := NB112001_112002.out
        have hcz11_0 : w5.cell? ⟨gb112002, 0, none⟩ = some (.int .i64 a1_0) := (blk_cell BK112002.out 0).trans rfl
        have hcz11_1 : w5.cell? ⟨gb112002, 1, none⟩ = some (.slice A1_1 l1_1.length c1_1) := (blk_cell BK112002.out 1).trans rfl
        have hcz11_2 : w5.cell? ⟨gb112002, 2, none⟩ = some (.slice A1_2 l1_2.length c1_2) := (blk_cell BK112002.out 2).trans rfl
        have hfz11_0 := blk_frozen BK112002.out 0
        have hfz11_1 := blk_frozen BK112002.out 1
        have hfz11_2 := blk_frozen BK112002.out 2
        have hcz12_0 : w5.cell? ⟨gb112001, 0, none⟩ = some (.slice A0_0 l0_0.length c0_0) := (blk_cell BK112001.out 0).trans rfl
        have hcz12_1 : w5.cell? ⟨gb112001, 1, none⟩ = some (.slice A0_1 l0_1.length c0_1) := (blk_cell BK112001.out 1).trans rfl
        have hcz12_2 : w5.cell? ⟨gb112001, 2, none⟩ = some (.int .i64 a0_2) := (blk_cell BK112001.out 2).trans rfl
        have hfz12_0 := blk_frozen BK112001.out 0
        have hfz12_1 := blk_frozen BK112001.out 1
        have hfz12_2 := blk_frozen BK112001.out 2
        go_wp2
        go_meet
        case rel => exact ⟨_, (true), (by first | rfl | (simp; done) | (simp [*]; done)), H', ⟨by first | omega | exact Nat.le_refl _⟩, ⟨by (with_reducible repeat (first | refine blk_drewN ?_ _ | refine blk_drew ?_ | refine blk_alloc ?_ _)); exact BK112001.out⟩, ⟨by (with_reducible repeat (first | refine blk_drewN ?_ _ | refine blk_drew ?_ | refine blk_alloc ?_ _)); exact BK112002.out⟩, ⟨by repeat (first | (with_reducible first | exact HB.out | apply below_alloc | apply pw_below_drewN | apply below_drew1 | refine below_set ?_ GE112001.out | refine below_set ?_ GE112002.out) | exact HB.out)⟩⟩
      · rw [if_neg c9] at H
        have c9b0 : decide ((wrap64 (a0_2 + 1)) < a1_0) = false := decide_eq_false c9
        clear c9
        by_cases c13 : (l1_1.length : Int) = (l0_0.length : Int)
        · rw [if_pos c13] at H
          have c13b0 : ((l1_1.length : Int) == (l0_0.length : Int)) = true := beq_iff_eq.mpr c13
          have c13b1 : ((l1_1.length : Int) != (l0_0.length : Int)) = false := bne_eq_false_iff_eq.mpr c13
          have c13b2 : (l1_1.length == l0_0.length) = true := by first | simpa using c13 | (simp at c13 ⊢; omega)
          clear c13
          replace H := Option.bind_eq_some_iff.mp H
          obtain ⟨t112003, A140, H⟩ := H
          replace H : (impl_isState.j0 k (!t112003) l0_0 l0_1 a0_2 a1_0 l1_1 l1_2) = some r := H
          have A14 := Aside0.mk A140
          clear A140
          have H' := Aside0.mk H
          clear H
          have hnb15 := NB112002_112001.out
          have hnc15 := NB112001_112002.out
          have hcz16_0 : w5.cell? ⟨gb112002, 0, none⟩ = some (.int .i64 a1_0) := (blk_cell BK112002.out 0).trans rfl
          have hcz16_1 : w5.cell? ⟨gb112002, 1, none⟩ = some (.slice A1_1 l1_1.length c1_1) := (blk_cell BK112002.out 1).trans rfl
          have hcz16_2 : w5.cell? ⟨gb112002, 2, none⟩ = some (.slice A1_2 l1_2.length c1_2) := (blk_cell BK112002.out 2).trans rfl
          have hfz16_0 := blk_frozen BK112002.out 0
          have hfz16_1 := blk_frozen BK112002.out 1
          have hfz16_2 := blk_frozen BK112002.out 2
          have hcz17_0 : w5.cell? ⟨gb112001, 0, none⟩ = some (.slice A0_0 l0_0.length c0_0) := (blk_cell BK112001.out 0).trans rfl
          have hcz17_1 : w5.cell? ⟨gb112001, 1, none⟩ = some (.slice A0_1 l0_1.length c0_1) := (blk_cell BK112001.out 1).trans rfl
          have hcz17_2 : w5.cell? ⟨gb112001, 2, none⟩ = some (.int .i64 a0_2) := (blk_cell BK112001.out 2).trans rfl
          have hfz17_0 := blk_frozen BK112001.out 0
          have hfz17_1 := blk_frozen BK112001.out 1
          have hfz17_2 := blk_frozen BK112001.out 2
          go_wp2_with (first | (go_at_call 159; (with_reducible refine (impl_ValuesOk.calls _ _ l1_2 t112003 _ ?side1 ?side2 A14.out).mono ?_); (case side1 => repeat (first | exact (Kd.C_below HR1_2.out HB.out) | (with_reducible refine Kd.C_alloc ?_ _) | (with_reducible refine Kd.C_drewN ?_ _) | (with_reducible refine Kd.C_drew ?_))); (case side2 => exact HC1_2.out); rintro e w18 ⟨rfl, hb⟩; have n0_ := Aside0.mk (blk_below (g := gb112001) (o := .cells #[.slice A0_0 l0_0.length c0_0, .slice A0_1 l0_1.length c0_1, .int .i64 a0_2] 66 (0, 0)) (by (with_reducible repeat (first | refine blk_drewN ?_ _ | refine blk_drew ?_ | refine blk_alloc ?_ _)); exact BK112001.out) hb); have n1_ := Aside0.mk (blk_below (g := gb112002) (o := .cells #[.int .i64 a1_0, .slice A1_1 l1_1.length c1_1, .slice A1_2 l1_2.length c1_2] 80 (0, 0)) (by (with_reducible repeat (first | refine blk_drewN ?_ _ | refine blk_drew ?_ | refine blk_alloc ?_ _)); exact BK112002.out) hb); have n2_ := Aside0.mk (below_step (by repeat (first | (with_reducible first | exact HB.out | apply below_alloc | apply pw_below_drewN | apply below_drew1 | refine below_set ?_ GE112001.out | refine below_set ?_ GE112002.out) | exact HB.out)) hb); clear BK112001; clear BK112002; clear HB; have BK112001 := n0_; have BK112002 := n1_; have HB := n2_; clear n0_ n1_ n2_; (try clear hb); (try clear hb2); (try clear hk); (try clear hi)))
          go_meet
          case rel => exact ⟨_, (!t112003), (by first | rfl | (simp; done) | (simp [*]; done)), H', ⟨by first | omega | exact Nat.le_refl _⟩, ⟨by (with_reducible repeat (first | refine blk_drewN ?_ _ | refine blk_drew ?_ | refine blk_alloc ?_ _)); exact BK112001.out⟩, ⟨by (with_reducible repeat (first | refine blk_drewN ?_ _ | refine blk_drew ?_ | refine blk_alloc ?_ _)); exact BK112002.out⟩, ⟨by repeat (first | (with_reducible first | exact HB.out | apply below_alloc | apply pw_below_drewN | apply below_drew1 | refine below_set ?_ GE112001.out | refine below_set ?_ GE112002.out) | exact HB.out)⟩⟩
        · rw [if_neg c13] at H
          have c13b0 : ((l1_1.length : Int) == (l0_0.length : Int)) = false := beq_eq_false_iff_ne.mpr c13
          have c13b1 : ((l1_1.length : Int) != (l0_0.length : Int)) = true := bne_iff_ne.mpr c13
          have c13b2 : (l1_1.length == l0_0.length) = false := by first | simpa using c13 | (simp at c13 ⊢; omega)
          have H' := Aside0.mk H
          clear H
          have hnb19 := NB112002_112001.out
          have hnc19 := NB112001_112002.out
          have hcz20_0 : w5.cell? ⟨gb112002, 0, none⟩ = some (.int .i64 a1_0) := (blk_cell BK112002.out 0).trans rfl
          have hcz20_1 : w5.cell? ⟨gb112002, 1, none⟩ = some (.slice A1_1 l1_1.length c1_1) := (blk_cell BK112002.out 1).trans rfl
          have hcz20_2 : w5.cell? ⟨gb112002, 2, none⟩ = some (.slice A1_2 l1_2.length c1_2) := (blk_cell BK112002.out 2).trans rfl
          have hfz20_0 := blk_frozen BK112002.out 0
          have hfz20_1 := blk_frozen BK112002.out 1
          have hfz20_2 := blk_frozen BK112002.out 2
          have hcz21_0 : w5.cell? ⟨gb112001, 0, none⟩ = some (.slice A0_0 l0_0.length c0_0) := (blk_cell BK112001.out 0).trans rfl
          have hcz21_1 : w5.cell? ⟨gb112001, 1, none⟩ = some (.slice A0_1 l0_1.length c0_1) := (blk_cell BK112001.out 1).trans rfl
          have hcz21_2 : w5.cell? ⟨gb112001, 2, none⟩ = some (.int .i64 a0_2) := (blk_cell BK112001.out 2).trans rfl
          have hfz21_0 := blk_frozen BK112001.out 0
          have hfz21_1 := blk_frozen BK112001.out 1
          have hfz21_2 := blk_frozen BK112001.out 2
          go_wp2
          go_meet
          case rel => exact ⟨_, (true), (by first | rfl | (simp; done) | (simp [*]; done)), H', ⟨by first | omega | exact Nat.le_refl _⟩, ⟨by (with_reducible repeat (first | refine blk_drewN ?_ _ | refine blk_drew ?_ | refine blk_alloc ?_ _)); exact BK112001.out⟩, ⟨by (with_reducible repeat (first | refine blk_drewN ?_ _ | refine blk_drew ?_ | refine blk_alloc ?_ _)); exact BK112002.out⟩, ⟨by repeat (first | (with_reducible first | exact HB.out | apply below_alloc | apply pw_below_drewN | apply below_drew1 | refine below_set ?_ GE112001.out | refine below_set ?_ GE112002.out) | exact HB.out)⟩⟩
  case rest =>
    clear HC3
    try clear c1
    try clear p2
    try clear c6
    try clear c6b0
    try clear p6
    try clear c7
    try clear c9
    try clear c9b0
    try clear c10
    try clear c11
    try clear c13
    try clear c13b0
    try clear c13b1
    try clear c13b2
    try clear c15
    try clear c19
    try clear hcz11_0
    try clear hcz11_1
    try clear hcz11_2
    try clear hcz12_0
    try clear hcz12_1
    try clear hcz12_2
    try clear hcz16_0
    try clear hcz16_1
    try clear hcz16_2
    try clear hcz17_0
    try clear hcz17_1
    try clear hcz17_2
    try clear hcz20_0
    try clear hcz20_1
    try clear hcz20_2
    try clear hcz21_0
    try clear hcz21_1
    try clear hcz21_2
    try clear hcz8_0
    try clear hcz8_1
    try clear hcz8_2
    try clear hfz11_0
    try clear hfz11_1
    try clear hfz11_2
    try clear hfz12_0
    try clear hfz12_1
    try clear hfz12_2
    try clear hfz16_0
    try clear hfz16_1
    try clear hfz16_2
    try clear hfz17_0
    try clear hfz17_1
    try clear hfz17_2
    try clear hfz20_0
    try clear hfz20_1
    try clear hfz20_2
    try clear hfz21_0
    try clear hfz21_1
    try clear hfz21_2
    try clear hfz8_0
    try clear hfz8_1
    try clear hfz8_2
    obtain ⟨kq, x35_2, rfl, HA, HJ2, BK112001, BK112002, HB⟩ := hcut
    cases kq with
    | zero => exact absurd HA.out (by simp [impl_isState.j0])
    | succ kj2 =>
      have H := HA.out
      clear HA
      simp only [impl_isState.j0] at H
      by_cases c22 : x35_2 = true
      · subst c22
        have H1 : (some false) = some r := by rw [if_pos rfl] at H; exact H
        clear H
        have H := H1
        clear H1
        obtain rfl := Option.some.inj H
        go_wp2
        go_ret
        exact ⟨by first | rfl | (simp [errW_none, errW_some] <;> rfl) | (simp [*, errW_none, errW_some] <;> rfl), by repeat (first | (with_reducible first | exact HB.out | apply below_alloc | apply pw_below_drewN | apply below_drew1 | refine below_set ?_ GE112001.out | refine below_set ?_ GE112002.out) | exact HB.out)⟩
      · replace c22 := Bool.eq_false_iff.mpr c22
        subst c22
        have H1 : (impl_isState.l0 kj2 l1_1 (l1_1.length : Int) 0 l0_0 l0_1 a0_2 a1_0 l1_1 l1_2) = some r := by rw [if_neg (show ¬ (false = true) by decide)] at H; exact H
        clear H
        have H := H1
        clear H1
        have H' := Aside0.mk H
        clear H
        have hnb23 := NB112002_112001.out
        have hnc23 := NB112001_112002.out
        have hcz24_0 : wc.cell? ⟨gb112002, 0, none⟩ = some (.int .i64 a1_0) := (blk_cell BK112002.out 0).trans rfl
        have hcz24_1 : wc.cell? ⟨gb112002, 1, none⟩ = some (.slice A1_1 l1_1.length c1_1) := (blk_cell BK112002.out 1).trans rfl
        have hcz24_2 : wc.cell? ⟨gb112002, 2, none⟩ = some (.slice A1_2 l1_2.length c1_2) := (blk_cell BK112002.out 2).trans rfl
        have hfz24_0 := blk_frozen BK112002.out 0
        have hfz24_1 := blk_frozen BK112002.out 1
        have hfz24_2 := blk_frozen BK112002.out 2
        go_wp2
        go_loopg [39] kj2 (fun kq v39 w' => ∃ (x39_2 : Int), v39 = .int .i64 x39_2 ∧ Aside0 (impl_isState.l0 kq l1_1 (l1_1.length : Int) x39_2 l0_0 l0_1 a0_2 a1_0 l1_1 l1_2 = some r) ∧ Aside0 (kq ≤ kj2) ∧ Aside0 (w'.heap[gb112001]? = some (.cells #[(.slice A0_0 l0_0.length c0_0), (.slice A0_1 l0_1.length c0_1), .int .i64 a0_2] 66 (0, 0))) ∧ Aside0 (w'.heap[gb112002]? = some (.cells #[.int .i64 a1_0, (.slice A1_1 l1_1.length c1_1), (.slice A1_2 l1_2.length c1_2)] 80 (0, 0))) ∧ Aside0 (Below w.heap.size w w'))
        case atStart => exact ⟨(0), (by first | rfl | (simp; done) | (simp [*]; done)), H', ⟨Nat.le_refl _⟩, ⟨by (with_reducible repeat (first | refine blk_drewN ?_ _ | refine blk_drew ?_ | refine blk_alloc ?_ _)); exact BK112001.out⟩, ⟨by (with_reducible repeat (first | refine blk_drewN ?_ _ | refine blk_drew ?_ | refine blk_alloc ?_ _)); exact BK112002.out⟩, ⟨by repeat (first | (with_reducible first | exact HB.out | apply below_alloc | apply pw_below_drewN | apply below_drew1 | refine below_set ?_ GE112001.out | refine below_set ?_ GE112002.out) | exact HB.out)⟩⟩
        case round =>
          clear H'
          try clear c1
          try clear c2
          try clear p2
          try clear c6
          try clear c6b0
          try clear p6
          try clear c7
          try clear c9
          try clear c9b0
          try clear c10
          try clear c11
          try clear c13
          try clear c13b0
          try clear c13b1
          try clear c13b2
          try clear c15
          try clear c19
          try clear c22
          try clear c23
          try clear hcz11_0
          try clear hcz11_1
          try clear hcz11_2
          try clear hcz12_0
          try clear hcz12_1
          try clear hcz12_2
          try clear hcz16_0
          try clear hcz16_1
          try clear hcz16_2
          try clear hcz17_0
          try clear hcz17_1
          try clear hcz17_2
          try clear hcz20_0
          try clear hcz20_1
          try clear hcz20_2
          try clear hcz21_0
          try clear hcz21_1
          try clear hcz21_2
          try clear hcz24_0
          try clear hcz24_1
          try clear hcz24_2
          try clear hcz8_0
          try clear hcz8_1
          try clear hcz8_2
          try clear hfz11_0
          try clear hfz11_1
          try clear hfz11_2
          try clear hfz12_0
          try clear hfz12_1
          try clear hfz12_2
          try clear hfz16_0
          try clear hfz16_1
          try clear hfz16_2
          try clear hfz17_0
          try clear hfz17_1
          try clear hfz17_2
          try clear hfz20_0
          try clear hfz20_1
          try clear hfz20_2
          try clear hfz21_0
          try clear hfz21_1
          try clear hfz21_2
          try clear hfz24_0
          try clear hfz24_1
          try clear hfz24_2
          try clear hfz8_0
          try clear hfz8_1
          try clear hfz8_2
          try clear p2
          try clear p6
          obtain ⟨x39_2, rfl, HA, HK2, BK112001, BK112002, HB⟩ := hrel
          cases gk with
          | zero => exact absurd HA.out (by simp [impl_isState.l0])
          | succ k2 =>
            have H := HA.out
            clear HA
            simp only [impl_isState.l0] at H
            by_cases c25 : x39_2 < (l1_1.length : Int)
            · rw [if_pos c25] at H
              have c25b0 : decide (x39_2 < (l1_1.length : Int)) = true := decide_eq_true c25
              clear c25
              by_cases c26 : 0 ≤ x39_2
              · rw [if_pos c26] at H
                have c26b0 : decide (0 ≤ x39_2) = true := decide_eq_true c26
                clear c26
                by_cases c27 : x39_2 < (l1_1.length : Int)
                · rw [if_pos c27] at H
                  have c27b0 : decide (x39_2 < (l1_1.length : Int)) = true := decide_eq_true c27
                  clear c27
                  by_cases c28 : x39_2 = 0
                  · rw [if_pos c28] at H
                    have c28b0 : (x39_2 == 0) = true := beq_iff_eq.mpr c28
                    have c28b1 : (x39_2 != 0) = false := bne_eq_false_iff_eq.mpr c28
                    clear c28
                    by_cases c29 : (rd l1_1 x39_2) = 0
                    · rw [if_pos c29] at H
                      have c29b0 : ((rd l1_1 x39_2) == 0) = true := beq_iff_eq.mpr c29
                      have c29b1 : ((rd l1_1 x39_2) != 0) = false := bne_eq_false_iff_eq.mpr c29
                      clear c29
                      by_cases c30 : x39_2 > 0
                      · rw [if_pos c30] at H
                        have c30b0 : decide (0 < x39_2) = true := decide_eq_true c30
                        clear c30
                        by_cases c31 : (rd l1_1 x39_2) < (-1)
                        · rw [if_pos c31] at H
                          have c31b0 : decide ((rd l1_1 x39_2) < (-1)) = true := decide_eq_true c31
                          clear c31
                          obtain rfl := Option.some.inj H
                          have p112004 : 0 ≤ (x39_2 : Int) := of_decide_eq_true (by first | (with_reducible assumption) | assumption)
                          have q112004 : x39_2 < (l1_1.length : Int) := of_decide_eq_true (by first | (with_reducible assumption) | assumption)
                          obtain ⟨ad112004, e112004, hx112004_0⟩ := Kd.at_int HR1_1.out x39_2 p112004 q112004
                          cases e112004
                          replace hx112004_0 := (HB.out.cell (World.block_lt_of_cell? w _ hx112004_0)).trans hx112004_0
                          replace p112004 := eq_true p112004
                          replace q112004 := eq_true q112004
                          go_wp2
                          go_ret
                          exact ⟨by first | rfl | (simp [errW_none, errW_some] <;> rfl) | (simp [*, errW_none, errW_some] <;> rfl), by repeat (first | (with_reducible first | exact HB.out | apply below_alloc | apply pw_below_drewN | apply below_drew1 | refine below_set ?_ GE112001.out | refine below_set ?_ GE112002.out) | exact HB.out)⟩
                        · rw [if_neg c31] at H
                          have c31b0 : decide ((rd l1_1 x39_2) < (-1)) = false := decide_eq_false c31
                          clear c31
                          by_cases c32 : (rd l1_1 x39_2) > (wrap64 (a1_0 - 1))
                          · rw [if_pos c32] at H
                            have c32b0 : decide ((wrap64 (a1_0 - 1)) < (rd l1_1 x39_2)) = true := decide_eq_true c32
                            clear c32
                            obtain rfl := Option.some.inj H
                            have p112004 : 0 ≤ (x39_2 : Int) := of_decide_eq_true (by first | (with_reducible assumption) | assumption)
                            have q112004 : x39_2 < (l1_1.length : Int) := of_decide_eq_true (by first | (with_reducible assumption) | assumption)
                            obtain ⟨ad112004, e112004, hx112004_0⟩ := Kd.at_int HR1_1.out x39_2 p112004 q112004
                            cases e112004
                            replace hx112004_0 := (HB.out.cell (World.block_lt_of_cell? w _ hx112004_0)).trans hx112004_0
                            replace p112004 := eq_true p112004
                            replace q112004 := eq_true q112004
                            have hnb33 := NB112002_112001.out
                            have hnc33 := NB112001_112002.out
                            have hcz34_0 : wr.cell? ⟨gb112002, 0, none⟩ = some (.int .i64 a1_0) := (blk_cell BK112002.out 0).trans rfl
                            have hcz34_1 : wr.cell? ⟨gb112002, 1, none⟩ = some (.slice (some ad112004) l1_1.length c1_1) := (blk_cell BK112002.out 1).trans rfl
                            have hcz34_2 : wr.cell? ⟨gb112002, 2, none⟩ = some (.slice A1_2 l1_2.length c1_2) := (blk_cell BK112002.out 2).trans rfl
                            have hfz34_0 := blk_frozen BK112002.out 0
                            have hfz34_1 := blk_frozen BK112002.out 1
                            have hfz34_2 := blk_frozen BK112002.out 2
                            go_wp2
                            go_ret
                            exact ⟨by first | rfl | (simp [errW_none, errW_some] <;> rfl) | (simp [*, errW_none, errW_some] <;> rfl), by repeat (first | (with_reducible first | exact HB.out | apply below_alloc | apply pw_below_drewN | apply below_drew1 | refine below_set ?_ GE112001.out | refine below_set ?_ GE112002.out) | exact HB.out)⟩
                          · rw [if_neg c32] at H
                            have c32b0 : decide ((wrap64 (a1_0 - 1)) < (rd l1_1 x39_2)) = false := decide_eq_false c32
                            clear c32
                            have H' := Aside0.mk H
                            clear H
                            have p112004 : 0 ≤ (x39_2 : Int) := of_decide_eq_true (by first | (with_reducible assumption) | assumption)
                            have q112004 : x39_2 < (l1_1.length : Int) := of_decide_eq_true (by first | (with_reducible assumption) | assumption)
                            obtain ⟨ad112004, e112004, hx112004_0⟩ := Kd.at_int HR1_1.out x39_2 p112004 q112004
                            cases e112004
                            replace hx112004_0 := (HB.out.cell (World.block_lt_of_cell? w _ hx112004_0)).trans hx112004_0
                            replace p112004 := eq_true p112004
                            replace q112004 := eq_true q112004
                            have hnb35 := NB112002_112001.out
                            have hnc35 := NB112001_112002.out
                            have hcz36_0 : wr.cell? ⟨gb112002, 0, none⟩ = some (.int .i64 a1_0) := (blk_cell BK112002.out 0).trans rfl
                            have hcz36_1 : wr.cell? ⟨gb112002, 1, none⟩ = some (.slice (some ad112004) l1_1.length c1_1) := (blk_cell BK112002.out 1).trans rfl
                            have hcz36_2 : wr.cell? ⟨gb112002, 2, none⟩ = some (.slice A1_2 l1_2.length c1_2) := (blk_cell BK112002.out 2).trans rfl
                            have hfz36_0 := blk_frozen BK112002.out 0
                            have hfz36_1 := blk_frozen BK112002.out 1
                            have hfz36_2 := blk_frozen BK112002.out 2
                            go_wp2
                            go_roundg k2
                            case measure => have := HJ2.out; have := HK2.out; omega
                            case rel => exact ⟨(wrap64 (x39_2 + 1)), (by first | rfl | (simp; done) | (simp [*]; done)), H', ⟨by have := HJ2.out; have := HK2.out; omega⟩, ⟨by (with_reducible repeat (first | refine blk_drewN ?_ _ | refine blk_drew ?_ | refine blk_alloc ?_ _)); exact BK112001.out⟩, ⟨by (with_reducible repeat (first | refine blk_drewN ?_ _ | refine blk_drew ?_ | refine blk_alloc ?_ _)); exact BK112002.out⟩, ⟨by repeat (first | (with_reducible first | exact HB.out | apply below_alloc | apply pw_below_drewN | apply below_drew1 | refine below_set ?_ GE112001.out | refine below_set ?_ GE112002.out) | exact HB.out)⟩⟩
                      · rw [if_neg c30] at H
                        have c30b0 : decide (0 < x39_2) = false := decide_eq_false c30
                        clear c30
                        have H' := Aside0.mk H
                        clear H
                        have p112004 : 0 ≤ (x39_2 : Int) := of_decide_eq_true (by first | (with_reducible assumption) | assumption)
                        have q112004 : x39_2 < (l1_1.length : Int) := of_decide_eq_true (by first | (with_reducible assumption) | assumption)
                        obtain ⟨ad112004, e112004, hx112004_0⟩ := Kd.at_int HR1_1.out x39_2 p112004 q112004
                        cases e112004
                        replace hx112004_0 := (HB.out.cell (World.block_lt_of_cell? w _ hx112004_0)).trans hx112004_0
                        replace p112004 := eq_true p112004
                        replace q112004 := eq_true q112004
                        go_wp2
                        go_roundg k2
                        case measure => have := HJ2.out; have := HK2.out; omega
                        case rel => exact ⟨(wrap64 (x39_2 + 1)), (by first | rfl | (simp; done) | (simp [*]; done)), H', ⟨by have := HJ2.out; have := HK2.out; omega⟩, ⟨by (with_reducible repeat (first | refine blk_drewN ?_ _ | refine blk_drew ?_ | refine blk_alloc ?_ _)); exact BK112001.out⟩, ⟨by (with_reducible repeat (first | refine blk_drewN ?_ _ | refine blk_drew ?_ | refine blk_alloc ?_ _)); exact BK112002.out⟩, ⟨by repeat (first | (with_reducible first | exact HB.out | apply below_alloc | apply pw_below_drewN | apply below_drew1 | refine below_set ?_ GE112001.out | refine below_set ?_ GE112002.out) | exact HB.out)⟩⟩
                    · rw [if_neg c29] at H
                      have c29b0 : ((rd l1_1 x39_2) == 0) = false := beq_eq_false_iff_ne.mpr c29
                      have c29b1 : ((rd l1_1 x39_2) != 0) = true := bne_iff_ne.mpr c29
                      obtain rfl := Option.some.inj H
                      have p112004 : 0 ≤ (x39_2 : Int) := of_decide_eq_true (by first | (with_reducible assumption) | assumption)
                      have q112004 : x39_2 < (l1_1.length : Int) := of_decide_eq_true (by first | (with_reducible assumption) | assumption)
                      obtain ⟨ad112004, e112004, hx112004_0⟩ := Kd.at_int HR1_1.out x39_2 p112004 q112004
                      cases e112004
                      replace hx112004_0 := (HB.out.cell (World.block_lt_of_cell? w _ hx112004_0)).trans hx112004_0
                      replace p112004 := eq_true p112004
                      replace q112004 := eq_true q112004
                      go_wp2
                      go_ret
                      exact ⟨by first | rfl | (simp [errW_none, errW_some] <;> rfl) | (simp [*, errW_none, errW_some] <;> rfl), by repeat (first | (with_reducible first | exact HB.out | apply below_alloc | apply pw_below_drewN | apply below_drew1 | refine below_set ?_ GE112001.out | refine below_set ?_ GE112002.out) | exact HB.out)⟩
                  · rw [if_neg c28] at H
                    have c28b0 : (x39_2 == 0) = false := beq_eq_false_iff_ne.mpr c28
                    have c28b1 : (x39_2 != 0) = true := bne_iff_ne.mpr c28
                    by_cases c37 : x39_2 > 0
                    · rw [if_pos c37] at H
                      have c37b0 : decide (0 < x39_2) = true := decide_eq_true c37
                      clear c37
                      by_cases c38 : (rd l1_1 x39_2) < (-1)
                      · rw [if_pos c38] at H
                        have c38b0 : decide ((rd l1_1 x39_2) < (-1)) = true := decide_eq_true c38
                        clear c38
                        obtain rfl := Option.some.inj H
                        have p112004 : 0 ≤ (x39_2 : Int) := of_decide_eq_true (by first | (with_reducible assumption) | assumption)
                        have q112004 : x39_2 < (l1_1.length : Int) := of_decide_eq_true (by first | (with_reducible assumption) | assumption)
                        obtain ⟨ad112004, e112004, hx112004_0⟩ := Kd.at_int HR1_1.out x39_2 p112004 q112004
                        cases e112004
                        replace hx112004_0 := (HB.out.cell (World.block_lt_of_cell? w _ hx112004_0)).trans hx112004_0
                        replace p112004 := eq_true p112004
                        replace q112004 := eq_true q112004
                        go_wp2
                        go_ret
                        exact ⟨by first | rfl | (simp [errW_none, errW_some] <;> rfl) | (simp [*, errW_none, errW_some] <;> rfl), by repeat (first | (with_reducible first | exact HB.out | apply below_alloc | apply pw_below_drewN | apply below_drew1 | refine below_set ?_ GE112001.out | refine below_set ?_ GE112002.out) | exact HB.out)⟩
                      · rw [if_neg c38] at H
                        have c38b0 : decide ((rd l1_1 x39_2) < (-1)) = false := decide_eq_false c38
                        clear c38
                        by_cases c39 : (rd l1_1 x39_2) > (wrap64 (a1_0 - 1))
                        · rw [if_pos c39] at H
                          have c39b0 : decide ((wrap64 (a1_0 - 1)) < (rd l1_1 x39_2)) = true := decide_eq_true c39
                          clear c39
                          obtain rfl := Option.some.inj H
                          have p112004 : 0 ≤ (x39_2 : Int) := of_decide_eq_true (by first | (with_reducible assumption) | assumption)
                          have q112004 : x39_2 < (l1_1.length : Int) := of_decide_eq_true (by first | (with_reducible assumption) | assumption)
                          obtain ⟨ad112004, e112004, hx112004_0⟩ := Kd.at_int HR1_1.out x39_2 p112004 q112004
                          cases e112004
                          replace hx112004_0 := (HB.out.cell (World.block_lt_of_cell? w _ hx112004_0)).trans hx112004_0
                          replace p112004 := eq_true p112004
                          replace q112004 := eq_true q112004
                          have hnb40 := NB112002_112001.out
                          have hnc40 := NB112001_112002.out
                          have hcz41_0 : wr.cell? ⟨gb112002, 0, none⟩ = some (.int .i64 a1_0) := (blk_cell BK112002.out 0).trans rfl
                          have hcz41_1 : wr.cell? ⟨gb112002, 1, none⟩ = some (.slice (some ad112004) l1_1.length c1_1) := (blk_cell BK112002.out 1).trans rfl
                          have hcz41_2 : wr.cell? ⟨gb112002, 2, none⟩ = some (.slice A1_2 l1_2.length c1_2) := (blk_cell BK112002.out 2).trans rfl
                          have hfz41_0 := blk_frozen BK112002.out 0
                          have hfz41_1 := blk_frozen BK112002.out 1
                          have hfz41_2 := blk_frozen BK112002.out 2
                          go_wp2
                          go_ret
                          exact ⟨by first | rfl | (simp [errW_none, errW_some] <;> rfl) | (simp [*, errW_none, errW_some] <;> rfl), by repeat (first | (with_reducible first | exact HB.out | apply below_alloc | apply pw_below_drewN | apply below_drew1 | refine below_set ?_ GE112001.out | refine below_set ?_ GE112002.out) | exact HB.out)⟩
                        · rw [if_neg c39] at H
                          have c39b0 : decide ((wrap64 (a1_0 - 1)) < (rd l1_1 x39_2)) = false := decide_eq_false c39
                          clear c39
                          have H' := Aside0.mk H
                          clear H
                          have p112004 : 0 ≤ (x39_2 : Int) := of_decide_eq_true (by first | (with_reducible assumption) | assumption)
                          have q112004 : x39_2 < (l1_1.length : Int) := of_decide_eq_true (by first | (with_reducible assumption) | assumption)
                          obtain ⟨ad112004, e112004, hx112004_0⟩ := Kd.at_int HR1_1.out x39_2 p112004 q112004
                          cases e112004
                          replace hx112004_0 := (HB.out.cell (World.block_lt_of_cell? w _ hx112004_0)).trans hx112004_0
                          replace p112004 := eq_true p112004
                          replace q112004 := eq_true q112004
                          have hnb42 := NB112002_112001.out
                          have hnc42 := NB112001_112002.out
                          have hcz43_0 : wr.cell? ⟨gb112002, 0, none⟩ = some (.int .i64 a1_0) := (blk_cell BK112002.out 0).trans rfl
                          have hcz43_1 : wr.cell? ⟨gb112002, 1, none⟩ = some (.slice (some ad112004) l1_1.length c1_1) := (blk_cell BK112002.out 1).trans rfl
                          have hcz43_2 : wr.cell? ⟨gb112002, 2, none⟩ = some (.slice A1_2 l1_2.length c1_2) := (blk_cell BK112002.out 2).trans rfl
                          have hfz43_0 := blk_frozen BK112002.out 0
                          have hfz43_1 := blk_frozen BK112002.out 1
                          have hfz43_2 := blk_frozen BK112002.out 2
                          go_wp2
                          go_roundg k2
                          case measure => have := HJ2.out; have := HK2.out; omega
                          case rel => exact ⟨(wrap64 (x39_2 + 1)), (by first | rfl | (simp; done) | (simp [*]; done)), H', ⟨by have := HJ2.out; have := HK2.out; omega⟩, ⟨by (with_reducible repeat (first | refine blk_drewN ?_ _ | refine blk_drew ?_ | refine blk_alloc ?_ _)); exact BK112001.out⟩, ⟨by (with_reducible repeat (first | refine blk_drewN ?_ _ | refine blk_drew ?_ | refine blk_alloc ?_ _)); exact BK112002.out⟩, ⟨by repeat (first | (with_reducible first | exact HB.out | apply below_alloc | apply pw_below_drewN | apply below_drew1 | refine below_set ?_ GE112001.out | refine below_set ?_ GE112002.out) | exact HB.out)⟩⟩
                    · rw [if_neg c37] at H
                      have c37b0 : decide (0 < x39_2) = false := decide_eq_false c37
                      clear c37
                      have H' := Aside0.mk H
                      clear H
                      have p112004 : 0 ≤ (x39_2 : Int) := of_decide_eq_true (by first | (with_reducible assumption) | assumption)
                      have q112004 : x39_2 < (l1_1.length : Int) := of_decide_eq_true (by first | (with_reducible assumption) | assumption)
                      obtain ⟨ad112004, e112004, hx112004_0⟩ := Kd.at_int HR1_1.out x39_2 p112004 q112004
                      cases e112004
                      replace hx112004_0 := (HB.out.cell (World.block_lt_of_cell? w _ hx112004_0)).trans hx112004_0
                      replace p112004 := eq_true p112004
                      replace q112004 := eq_true q112004
                      go_wp2
                      go_roundg k2
                      case measure => have := HJ2.out; have := HK2.out; omega
                      case rel => exact ⟨(wrap64 (x39_2 + 1)), (by first | rfl | (simp; done) | (simp [*]; done)), H', ⟨by have := HJ2.out; have := HK2.out; omega⟩, ⟨by (with_reducible repeat (first | refine blk_drewN ?_ _ | refine blk_drew ?_ | refine blk_alloc ?_ _)); exact BK112001.out⟩, ⟨by (with_reducible repeat (first | refine blk_drewN ?_ _ | refine blk_drew ?_ | refine blk_alloc ?_ _)); exact BK112002.out⟩, ⟨by repeat (first | (with_reducible first | exact HB.out | apply below_alloc | apply pw_below_drewN | apply below_drew1 | refine below_set ?_ GE112001.out | refine below_set ?_ GE112002.out) | exact HB.out)⟩⟩
                · rw [if_neg c27] at H
                  exact absurd H (by simp)
              · rw [if_neg c26] at H
                exact absurd H (by simp)
            · rw [if_neg c25] at H
              have c25b0 : decide (x39_2 < (l1_1.length : Int)) = false := decide_eq_false c25
              clear c25
              have H' := Aside0.mk H
              clear H
              have hnb44 := NB112002_112001.out
              have hnc44 := NB112001_112002.out
              have hcz45_0 : wr.cell? ⟨gb112002, 0, none⟩ = some (.int .i64 a1_0) := (blk_cell BK112002.out 0).trans rfl
              have hcz45_1 : wr.cell? ⟨gb112002, 1, none⟩ = some (.slice A1_1 l1_1.length c1_1) := (blk_cell BK112002.out 1).trans rfl
              have hcz45_2 : wr.cell? ⟨gb112002, 2, none⟩ = some (.slice A1_2 l1_2.length c1_2) := (blk_cell BK112002.out 2).trans rfl
              have hfz45_0 := blk_frozen BK112002.out 0
              have hfz45_1 := blk_frozen BK112002.out 1
              have hfz45_2 := blk_frozen BK112002.out 2
              go_wp2
              go_loopg [69] k2 (fun kq v69 w' => ∃ (x69_3 : Int), v69 = .int .i64 x69_3 ∧ Aside0 (impl_isState.l1 kq l1_2 (l1_2.length : Int) x69_3 l0_0 l0_1 a0_2 a1_0 l1_1 l1_2 = some r) ∧ Aside0 (kq ≤ k2) ∧ Aside0 (w'.heap[gb112001]? = some (.cells #[(.slice A0_0 l0_0.length c0_0), (.slice A0_1 l0_1.length c0_1), .int .i64 a0_2] 66 (0, 0))) ∧ Aside0 (w'.heap[gb112002]? = some (.cells #[.int .i64 a1_0, (.slice A1_1 l1_1.length c1_1), (.slice A1_2 l1_2.length c1_2)] 80 (0, 0))) ∧ Aside0 (Below w.heap.size w w'))
              case atStart => exact ⟨(0), (by first | rfl | (simp; done) | (simp [*]; done)), H', ⟨Nat.le_refl _⟩, ⟨by (with_reducible repeat (first | refine blk_drewN ?_ _ | refine blk_drew ?_ | refine blk_alloc ?_ _)); exact BK112001.out⟩, ⟨by (with_reducible repeat (first | refine blk_drewN ?_ _ | refine blk_drew ?_ | refine blk_alloc ?_ _)); exact BK112002.out⟩, ⟨by repeat (first | (with_reducible first | exact HB.out | apply below_alloc | apply pw_below_drewN | apply below_drew1 | refine below_set ?_ GE112001.out | refine below_set ?_ GE112002.out) | exact HB.out)⟩⟩
              case round =>
                clear H'
                try clear c1
                try clear p1
                try clear q1
                try clear hx1
                try clear c2
                try clear p2
                try clear c3
                try clear c4
                try clear c6
                try clear c6b0
                try clear p6
                try clear c7
                try clear c9
                try clear c9b0
                try clear c10
                try clear c11
                try clear p11
                try clear q11
                try clear hx11
                try clear c13
                try clear c13b0
                try clear c13b1
                try clear c13b2
                try clear c15
                try clear c19
                try clear c22
                try clear c23
                try clear c25
                try clear c25b0
                try clear c26
                try clear c26b0
                try clear c27
                try clear c27b0
                try clear c28
                try clear c28b0
                try clear c28b1
                try clear c29
                try clear c29b0
                try clear c29b1
                try clear c30
                try clear c30b0
                try clear c31
                try clear c31b0
                try clear c32
                try clear c32b0
                try clear c33
                try clear c35
                try clear c37
                try clear c37b0
                try clear c38
                try clear c38b0
                try clear c39
                try clear c39b0
                try clear c40
                try clear c42
                try clear c44
                try clear hcz11_0
                try clear hcz11_1
                try clear hcz11_2
                try clear hcz12_0
                try clear hcz12_1
                try clear hcz12_2
                try clear hcz16_0
                try clear hcz16_1
                try clear hcz16_2
                try clear hcz17_0
                try clear hcz17_1
                try clear hcz17_2
                try clear hcz20_0
                try clear hcz20_1
                try clear hcz20_2
                try clear hcz21_0
                try clear hcz21_1
                try clear hcz21_2
                try clear hcz24_0
                try clear hcz24_1
                try clear hcz24_2
                try clear hcz34_0
                try clear hcz34_1
                try clear hcz34_2
                try clear hcz36_0
                try clear hcz36_1
                try clear hcz36_2
                try clear hcz41_0
                try clear hcz41_1
                try clear hcz41_2
                try clear hcz43_0
                try clear hcz43_1
                try clear hcz43_2
                try clear hcz45_0
                try clear hcz45_1
                try clear hcz45_2
                try clear hcz8_0
                try clear hcz8_1
                try clear hcz8_2
                try clear hfz11_0
                try clear hfz11_1
                try clear hfz11_2
                try clear hfz12_0
                try clear hfz12_1
                try clear hfz12_2
                try clear hfz16_0
                try clear hfz16_1
                try clear hfz16_2
                try clear hfz17_0
                try clear hfz17_1
                try clear hfz17_2
                try clear hfz20_0
                try clear hfz20_1
                try clear hfz20_2
                try clear hfz21_0
                try clear hfz21_1
                try clear hfz21_2
                try clear hfz24_0
                try clear hfz24_1
                try clear hfz24_2
                try clear hfz34_0
                try clear hfz34_1
                try clear hfz34_2
                try clear hfz36_0
                try clear hfz36_1
                try clear hfz36_2
                try clear hfz41_0
                try clear hfz41_1
                try clear hfz41_2
                try clear hfz43_0
                try clear hfz43_1
                try clear hfz43_2
                try clear hfz45_0
                try clear hfz45_1
                try clear hfz45_2
                try clear hfz8_0
                try clear hfz8_1
                try clear hfz8_2
                try clear hx112004_0
                try clear p112004
                try clear p2
                try clear p6
                try clear q112004
                obtain ⟨x69_3, rfl, HA, HK3, BK112001, BK112002, HB⟩ := hrel
                cases gk with
                | zero => exact absurd HA.out (by simp [impl_isState.l1])
                | succ k3 =>
                  have H := HA.out
                  clear HA
                  simp only [impl_isState.l1] at H
                  by_cases c46 : x69_3 < (l1_2.length : Int)
                  · rw [if_pos c46] at H
                    have c46b0 : decide (x69_3 < (l1_2.length : Int)) = true := decide_eq_true c46
                    clear c46
                    by_cases c47 : 0 ≤ x69_3
                    · rw [if_pos c47] at H
                      have c47b0 : decide (0 ≤ x69_3) = true := decide_eq_true c47
                      clear c47
                      by_cases c48 : x69_3 < (l1_2.length : Int)
                      · rw [if_pos c48] at H
                        have c48b0 : decide (x69_3 < (l1_2.length : Int)) = true := decide_eq_true c48
                        clear c48
                        replace H := Option.bind_eq_some_iff.mp H
                        obtain ⟨t112006, A490, H⟩ := H
                        replace H : (if t112006 ≥ 0 then (if 0 ≤ t112006 then (if t112006 < (l1_1.length : Int) then (if (((rd l1_2 x69_3) != 0) != ((rd l1_1 t112006) != (-1))) = true then (some false) else (impl_isState.l1 k3 l1_2 (l1_2.length : Int) (wrap64 (x69_3 + 1)) l0_0 l0_1 a0_2 a1_0 l1_1 l1_2)) else (none)) else (none)) else (if (((rd l1_2 x69_3) != 0) != false) = true then (some false) else (impl_isState.l1 k3 l1_2 (l1_2.length : Int) (wrap64 (x69_3 + 1)) l0_0 l0_1 a0_2 a1_0 l1_1 l1_2))) = some r := H
                        have A49 := Aside0.mk A490
                        clear A490
                        by_cases c50 : t112006 ≥ 0
                        · rw [if_pos c50] at H
                          have c50b0 : decide (0 ≤ t112006) = true := decide_eq_true c50
                          clear c50
                          by_cases c51 : 0 ≤ t112006
                          · rw [if_pos c51] at H
                            have c51b0 : decide (0 ≤ t112006) = true := decide_eq_true c51
                            clear c51
                            by_cases c52 : t112006 < (l1_1.length : Int)
                            · rw [if_pos c52] at H
                              have c52b0 : decide (t112006 < (l1_1.length : Int)) = true := decide_eq_true c52
                              clear c52
                              by_cases c53 : (((rd l1_2 x69_3) != 0) != ((rd l1_1 t112006) != (-1))) = true
                              · rw [if_pos c53] at H
                                have c53b0 : (((rd l1_2 x69_3) != 0) != ((rd l1_1 t112006) != (-1))) = true := c53
                                (try (have c53b1 : decide (((rd l1_2 x69_3) != 0) = ((rd l1_1 t112006) != (-1))) = false := by simpa using c53))
                                (try (have c53b2 : (((rd l1_2 x69_3) != 0) == ((rd l1_1 t112006) != (-1))) = false := by simpa using c53))
                                (try (have c53b3 : ¬ (((rd l1_2 x69_3) != 0) = ((rd l1_1 t112006) != (-1))) := by simpa using c53))
                                clear c53
                                obtain rfl := Option.some.inj H
                                have p112005 : 0 ≤ (x69_3 : Int) := of_decide_eq_true (by first | (with_reducible assumption) | assumption)
                                have q112005 : x69_3 < (l1_2.length : Int) := of_decide_eq_true (by first | (with_reducible assumption) | assumption)
                                obtain ⟨ad112005, e112005, hx112005_0⟩ := Kd.at_int HR1_2.out x69_3 p112005 q112005
                                cases e112005
                                replace hx112005_0 := (HB.out.cell (World.block_lt_of_cell? w _ hx112005_0)).trans hx112005_0
                                replace p112005 := eq_true p112005
                                replace q112005 := eq_true q112005
                                have hnb54 := NB112001_112002.out
                                have hnc54 := NB112002_112001.out
                                have hcz55_0 : wr.cell? ⟨gb112001, 0, none⟩ = some (.slice A0_0 l0_0.length c0_0) := (blk_cell BK112001.out 0).trans rfl
                                have hcz55_1 : wr.cell? ⟨gb112001, 1, none⟩ = some (.slice A0_1 l0_1.length c0_1) := (blk_cell BK112001.out 1).trans rfl
                                have hcz55_2 : wr.cell? ⟨gb112001, 2, none⟩ = some (.int .i64 a0_2) := (blk_cell BK112001.out 2).trans rfl
                                have hfz55_0 := blk_frozen BK112001.out 0
                                have hfz55_1 := blk_frozen BK112001.out 1
                                have hfz55_2 := blk_frozen BK112001.out 2
                                go_wp2_with (first | ((with_reducible refine gate_callee (f := 102) rfl ?_); refine goesL_ (some 77) rfl rfl Try.func102 (by kernel_rfl) rfl #[.agg #[.slice A0_0 l0_0.length c0_0, .slice A0_1 l0_1.length c0_1, .int .i64 a0_2], .int .i64 (wrap64 (x69_3 + 1))] rfl (by (try simp only [List.map_toArray, List.map_cons, List.map_nil]); first | done | rfl | (simp only [List.length_drop, List.length_take]; rfl)) ?_; (with_reducible refine (impl_watcher.calls _ _ l0_0 _ _ l0_1 a0_2 (wrap64 (x69_3 + 1)) t112006 _ ?side1 ?side2 ?side3 ?side4 A49.out).mono ?_); (case side1 => repeat (first | exact (Kd.C_below HR0_0.out HB.out) | (with_reducible refine Kd.C_alloc ?_ _) | (with_reducible refine Kd.C_drewN ?_ _) | (with_reducible refine Kd.C_drew ?_))); (case side2 => exact HC0_0.out); (case side3 => repeat (first | exact (Kd.C_below HR0_1.out HB.out) | (with_reducible refine Kd.C_alloc ?_ _) | (with_reducible refine Kd.C_drewN ?_ _) | (with_reducible refine Kd.C_drew ?_))); (case side4 => exact HC0_1.out); rintro e w56 ⟨rfl, hb⟩; refine ⟨_, rfl, ?_⟩; have n0_ := Aside0.mk (blk_below (g := gb112001) (o := .cells #[.slice A0_0 l0_0.length c0_0, .slice A0_1 l0_1.length c0_1, .int .i64 a0_2] 66 (0, 0)) (by (with_reducible repeat (first | refine blk_drewN ?_ _ | refine blk_drew ?_ | refine blk_alloc ?_ _)); exact BK112001.out) hb); have n1_ := Aside0.mk (blk_below (g := gb112002) (o := .cells #[.int .i64 a1_0, .slice A1_1 l1_1.length c1_1, .slice (some ad112005) l1_2.length c1_2] 80 (0, 0)) (by (with_reducible repeat (first | refine blk_drewN ?_ _ | refine blk_drew ?_ | refine blk_alloc ?_ _)); exact BK112002.out) hb); have n2_ := Aside0.mk (below_step (by repeat (first | (with_reducible first | exact HB.out | apply below_alloc | apply pw_below_drewN | apply below_drew1 | refine below_set ?_ GE112001.out | refine below_set ?_ GE112002.out) | exact HB.out)) hb); clear BK112001; clear BK112002; clear HB; have BK112001 := n0_; have BK112002 := n1_; have HB := n2_; clear n0_ n1_ n2_; (try clear hb); (try clear hb2); (try clear hk); (try clear hi); have hcz57_0 : w56.cell? ⟨gb112002, 0, none⟩ = some (.int .i64 a1_0) := (blk_cell BK112002.out 0).trans rfl; have hcz57_1 : w56.cell? ⟨gb112002, 1, none⟩ = some (.slice A1_1 l1_1.length c1_1) := (blk_cell BK112002.out 1).trans rfl; have hcz57_2 : w56.cell? ⟨gb112002, 2, none⟩ = some (.slice (some ad112005) l1_2.length c1_2) := (blk_cell BK112002.out 2).trans rfl; have hfz57_0 := blk_frozen BK112002.out 0; have hfz57_1 := blk_frozen BK112002.out 1; have hfz57_2 := blk_frozen BK112002.out 2; have p112007 : 0 ≤ (t112006 : Int) := of_decide_eq_true (by first | (with_reducible assumption) | assumption); have q112007 : t112006 < (l1_1.length : Int) := of_decide_eq_true (by first | (with_reducible assumption) | assumption); obtain ⟨ad112007, e112007, hx112007_0⟩ := Kd.at_int HR1_1.out t112006 p112007 q112007; cases e112007; replace hx112007_0 := (HB.out.cell (World.block_lt_of_cell? w _ hx112007_0)).trans hx112007_0; replace p112007 := eq_true p112007; replace q112007 := eq_true q112007))
                                go_ret
                                exact ⟨by first | rfl | (simp [errW_none, errW_some] <;> rfl) | (simp [*, errW_none, errW_some] <;> rfl), by repeat (first | (with_reducible first | exact HB.out | apply below_alloc | apply pw_below_drewN | apply below_drew1 | refine below_set ?_ GE112001.out | refine below_set ?_ GE112002.out) | exact HB.out)⟩
                              · rw [if_neg c53] at H
                                have c53b0 : (((rd l1_2 x69_3) != 0) != ((rd l1_1 t112006) != (-1))) = false := by simpa using c53
                                (try (have c53b1 : decide (((rd l1_2 x69_3) != 0) = ((rd l1_1 t112006) != (-1))) = true := by simpa using c53))
                                (try (have c53b2 : (((rd l1_2 x69_3) != 0) == ((rd l1_1 t112006) != (-1))) = true := by simpa using c53))
                                clear c53
                                have H' := Aside0.mk H
                                clear H
                                have p112005 : 0 ≤ (x69_3 : Int) := of_decide_eq_true (by first | (with_reducible assumption) | assumption)
                                have q112005 : x69_3 < (l1_2.length : Int) := of_decide_eq_true (by first | (with_reducible assumption) | assumption)
                                obtain ⟨ad112005, e112005, hx112005_0⟩ := Kd.at_int HR1_2.out x69_3 p112005 q112005
                                cases e112005
                                replace hx112005_0 := (HB.out.cell (World.block_lt_of_cell? w _ hx112005_0)).trans hx112005_0
                                replace p112005 := eq_true p112005
                                replace q112005 := eq_true q112005
                                have hnb58 := NB112001_112002.out
                                have hnc58 := NB112002_112001.out
                                have hcz59_0 : wr.cell? ⟨gb112001, 0, none⟩ = some (.slice A0_0 l0_0.length c0_0) := (blk_cell BK112001.out 0).trans rfl
                                have hcz59_1 : wr.cell? ⟨gb112001, 1, none⟩ = some (.slice A0_1 l0_1.length c0_1) := (blk_cell BK112001.out 1).trans rfl
                                have hcz59_2 : wr.cell? ⟨gb112001, 2, none⟩ = some (.int .i64 a0_2) := (blk_cell BK112001.out 2).trans rfl
                                have hfz59_0 := blk_frozen BK112001.out 0
                                have hfz59_1 := blk_frozen BK112001.out 1
                                have hfz59_2 := blk_frozen BK112001.out 2
                                go_wp2_with (first | ((with_reducible refine gate_callee (f := 102) rfl ?_); refine goesL_ (some 77) rfl rfl Try.func102 (by kernel_rfl) rfl #[.agg #[.slice A0_0 l0_0.length c0_0, .slice A0_1 l0_1.length c0_1, .int .i64 a0_2], .int .i64 (wrap64 (x69_3 + 1))] rfl (by (try simp only [List.map_toArray, List.map_cons, List.map_nil]); first | done | rfl | (simp only [List.length_drop, List.length_take]; rfl)) ?_; (with_reducible refine (impl_watcher.calls _ _ l0_0 _ _ l0_1 a0_2 (wrap64 (x69_3 + 1)) t112006 _ ?side1 ?side2 ?side3 ?side4 A49.out).mono ?_); (case side1 => repeat (first | exact (Kd.C_below HR0_0.out HB.out) | (with_reducible refine Kd.C_alloc ?_ _) | (with_reducible refine Kd.C_drewN ?_ _) | (with_reducible refine Kd.C_drew ?_))); (case side2 => exact HC0_0.out); (case side3 => repeat (first | exact (Kd.C_below HR0_1.out HB.out) | (with_reducible refine Kd.C_alloc ?_ _) | (with_reducible refine Kd.C_drewN ?_ _) | (with_reducible refine Kd.C_drew ?_))); (case side4 => exact HC0_1.out); rintro e w60 ⟨rfl, hb⟩; refine ⟨_, rfl, ?_⟩; have n0_ := Aside0.mk (blk_below (g := gb112001) (o := .cells #[.slice A0_0 l0_0.length c0_0, .slice A0_1 l0_1.length c0_1, .int .i64 a0_2] 66 (0, 0)) (by (with_reducible repeat (first | refine blk_drewN ?_ _ | refine blk_drew ?_ | refine blk_alloc ?_ _)); exact BK112001.out) hb); have n1_ := Aside0.mk (blk_below (g := gb112002) (o := .cells #[.int .i64 a1_0, .slice A1_1 l1_1.length c1_1, .slice (some ad112005) l1_2.length c1_2] 80 (0, 0)) (by (with_reducible repeat (first | refine blk_drewN ?_ _ | refine blk_drew ?_ | refine blk_alloc ?_ _)); exact BK112002.out) hb); have n2_ := Aside0.mk (below_step (by repeat (first | (with_reducible first | exact HB.out | apply below_alloc | apply pw_below_drewN | apply below_drew1 | refine below_set ?_ GE112001.out | refine below_set ?_ GE112002.out) | exact HB.out)) hb); clear BK112001; clear BK112002; clear HB; have BK112001 := n0_; have BK112002 := n1_; have HB := n2_; clear n0_ n1_ n2_; (try clear hb); (try clear hb2); (try clear hk); (try clear hi); have hcz61_0 : w60.cell? ⟨gb112002, 0, none⟩ = some (.int .i64 a1_0) := (blk_cell BK112002.out 0).trans rfl; have hcz61_1 : w60.cell? ⟨gb112002, 1, none⟩ = some (.slice A1_1 l1_1.length c1_1) := (blk_cell BK112002.out 1).trans rfl; have hcz61_2 : w60.cell? ⟨gb112002, 2, none⟩ = some (.slice (some ad112005) l1_2.length c1_2) := (blk_cell BK112002.out 2).trans rfl; have hfz61_0 := blk_frozen BK112002.out 0; have hfz61_1 := blk_frozen BK112002.out 1; have hfz61_2 := blk_frozen BK112002.out 2; have p112007 : 0 ≤ (t112006 : Int) := of_decide_eq_true (by first | (with_reducible assumption) | assumption); have q112007 : t112006 < (l1_1.length : Int) := of_decide_eq_true (by first | (with_reducible assumption) | assumption); obtain ⟨ad112007, e112007, hx112007_0⟩ := Kd.at_int HR1_1.out t112006 p112007 q112007; cases e112007; replace hx112007_0 := (HB.out.cell (World.block_lt_of_cell? w _ hx112007_0)).trans hx112007_0; replace p112007 := eq_true p112007; replace q112007 := eq_true q112007))
                                go_roundg k3
                                case measure => have := HJ2.out; have := HK2.out; have := HK3.out; omega
                                case rel => exact ⟨(wrap64 (x69_3 + 1)), (by first | rfl | (simp; done) | (simp [*]; done)), H', ⟨by have := HJ2.out; have := HK2.out; have := HK3.out; omega⟩, ⟨by (with_reducible repeat (first | refine blk_drewN ?_ _ | refine blk_drew ?_ | refine blk_alloc ?_ _)); exact BK112001.out⟩, ⟨by (with_reducible repeat (first | refine blk_drewN ?_ _ | refine blk_drew ?_ | refine blk_alloc ?_ _)); exact BK112002.out⟩, ⟨by repeat (first | (with_reducible first | exact HB.out | apply below_alloc | apply pw_below_drewN | apply below_drew1 | refine below_set ?_ GE112001.out | refine below_set ?_ GE112002.out) | exact HB.out)⟩⟩
                            · rw [if_neg c52] at H
                              exact absurd H (by simp)
                          · rw [if_neg c51] at H
                            exact absurd H (by simp)
                        · rw [if_neg c50] at H
                          have c50b0 : decide (0 ≤ t112006) = false := decide_eq_false c50
                          clear c50
                          by_cases c62 : (((rd l1_2 x69_3) != 0) != false) = true
                          · rw [if_pos c62] at H
                            have c62b0 : (((rd l1_2 x69_3) != 0) != false) = true := c62
                            (try (have c62b1 : decide (((rd l1_2 x69_3) != 0) = false) = false := by simpa using c62))
                            (try (have c62b2 : (((rd l1_2 x69_3) != 0) == false) = false := by simpa using c62))
                            (try (have c62b3 : ¬ (((rd l1_2 x69_3) != 0) = false) := by simpa using c62))
                            clear c62
                            obtain rfl := Option.some.inj H
                            have p112005 : 0 ≤ (x69_3 : Int) := of_decide_eq_true (by first | (with_reducible assumption) | assumption)
                            have q112005 : x69_3 < (l1_2.length : Int) := of_decide_eq_true (by first | (with_reducible assumption) | assumption)
                            obtain ⟨ad112005, e112005, hx112005_0⟩ := Kd.at_int HR1_2.out x69_3 p112005 q112005
                            cases e112005
                            replace hx112005_0 := (HB.out.cell (World.block_lt_of_cell? w _ hx112005_0)).trans hx112005_0
                            replace p112005 := eq_true p112005
                            replace q112005 := eq_true q112005
                            have hnb63 := NB112001_112002.out
                            have hnc63 := NB112002_112001.out
                            have hcz64_0 : wr.cell? ⟨gb112001, 0, none⟩ = some (.slice A0_0 l0_0.length c0_0) := (blk_cell BK112001.out 0).trans rfl
                            have hcz64_1 : wr.cell? ⟨gb112001, 1, none⟩ = some (.slice A0_1 l0_1.length c0_1) := (blk_cell BK112001.out 1).trans rfl
                            have hcz64_2 : wr.cell? ⟨gb112001, 2, none⟩ = some (.int .i64 a0_2) := (blk_cell BK112001.out 2).trans rfl
                            have hfz64_0 := blk_frozen BK112001.out 0
                            have hfz64_1 := blk_frozen BK112001.out 1
                            have hfz64_2 := blk_frozen BK112001.out 2
                            go_wp2_with (first | ((with_reducible refine gate_callee (f := 102) rfl ?_); refine goesL_ (some 77) rfl rfl Try.func102 (by kernel_rfl) rfl #[.agg #[.slice A0_0 l0_0.length c0_0, .slice A0_1 l0_1.length c0_1, .int .i64 a0_2], .int .i64 (wrap64 (x69_3 + 1))] rfl (by (try simp only [List.map_toArray, List.map_cons, List.map_nil]); first | done | rfl | (simp only [List.length_drop, List.length_take]; rfl)) ?_; (with_reducible refine (impl_watcher.calls _ _ l0_0 _ _ l0_1 a0_2 (wrap64 (x69_3 + 1)) t112006 _ ?side1 ?side2 ?side3 ?side4 A49.out).mono ?_); (case side1 => repeat (first | exact (Kd.C_below HR0_0.out HB.out) | (with_reducible refine Kd.C_alloc ?_ _) | (with_reducible refine Kd.C_drewN ?_ _) | (with_reducible refine Kd.C_drew ?_))); (case side2 => exact HC0_0.out); (case side3 => repeat (first | exact (Kd.C_below HR0_1.out HB.out) | (with_reducible refine Kd.C_alloc ?_ _) | (with_reducible refine Kd.C_drewN ?_ _) | (with_reducible refine Kd.C_drew ?_))); (case side4 => exact HC0_1.out); rintro e w65 ⟨rfl, hb⟩; refine ⟨_, rfl, ?_⟩; have n0_ := Aside0.mk (blk_below (g := gb112001) (o := .cells #[.slice A0_0 l0_0.length c0_0, .slice A0_1 l0_1.length c0_1, .int .i64 a0_2] 66 (0, 0)) (by (with_reducible repeat (first | refine blk_drewN ?_ _ | refine blk_drew ?_ | refine blk_alloc ?_ _)); exact BK112001.out) hb); have n1_ := Aside0.mk (blk_below (g := gb112002) (o := .cells #[.int .i64 a1_0, .slice A1_1 l1_1.length c1_1, .slice (some ad112005) l1_2.length c1_2] 80 (0, 0)) (by (with_reducible repeat (first | refine blk_drewN ?_ _ | refine blk_drew ?_ | refine blk_alloc ?_ _)); exact BK112002.out) hb); have n2_ := Aside0.mk (below_step (by repeat (first | (with_reducible first | exact HB.out | apply below_alloc | apply pw_below_drewN | apply below_drew1 | refine below_set ?_ GE112001.out | refine below_set ?_ GE112002.out) | exact HB.out)) hb); clear BK112001; clear BK112002; clear HB; have BK112001 := n0_; have BK112002 := n1_; have HB := n2_; clear n0_ n1_ n2_; (try clear hb); (try clear hb2); (try clear hk); (try clear hi)))
                            go_ret
                            exact ⟨by first | rfl | (simp [errW_none, errW_some] <;> rfl) | (simp [*, errW_none, errW_some] <;> rfl), by repeat (first | (with_reducible first | exact HB.out | apply below_alloc | apply pw_below_drewN | apply below_drew1 | refine below_set ?_ GE112001.out | refine below_set ?_ GE112002.out) | exact HB.out)⟩
                          · rw [if_neg c62] at H
                            have c62b0 : (((rd l1_2 x69_3) != 0) != false) = false := by simpa using c62
                            (try (have c62b1 : decide (((rd l1_2 x69_3) != 0) = false) = true := by simpa using c62))
                            (try (have c62b2 : (((rd l1_2 x69_3) != 0) == false) = true := by simpa using c62))
                            clear c62
                            have H' := Aside0.mk H
                            clear H
                            have p112005 : 0 ≤ (x69_3 : Int) := of_decide_eq_true (by first | (with_reducible assumption) | assumption)
                            have q112005 : x69_3 < (l1_2.length : Int) := of_decide_eq_true (by first | (with_reducible assumption) | assumption)
                            obtain ⟨ad112005, e112005, hx112005_0⟩ := Kd.at_int HR1_2.out x69_3 p112005 q112005
                            cases e112005
                            replace hx112005_0 := (HB.out.cell (World.block_lt_of_cell? w _ hx112005_0)).trans hx112005_0
                            replace p112005 := eq_true p112005
                            replace q112005 := eq_true q112005
                            have hnb66 := NB112001_112002.out
                            have hnc66 := NB112002_112001.out
                            have hcz67_0 : wr.cell? ⟨gb112001, 0, none⟩ = some (.slice A0_0 l0_0.length c0_0) := (blk_cell BK112001.out 0).trans rfl
                            have hcz67_1 : wr.cell? ⟨gb112001, 1, none⟩ = some (.slice A0_1 l0_1.length c0_1) := (blk_cell BK112001.out 1).trans rfl
                            have hcz67_2 : wr.cell? ⟨gb112001, 2, none⟩ = some (.int .i64 a0_2) := (blk_cell BK112001.out 2).trans rfl
                            have hfz67_0 := blk_frozen BK112001.out 0
                            have hfz67_1 := blk_frozen BK112001.out 1
                            have hfz67_2 := blk_frozen BK112001.out 2
                            go_wp2_with (first | ((with_reducible refine gate_callee (f := 102) rfl ?_); refine goesL_ (some 77) rfl rfl Try.func102 (by kernel_rfl) rfl #[.agg #[.slice A0_0 l0_0.length c0_0, .slice A0_1 l0_1.length c0_1, .int .i64 a0_2], .int .i64 (wrap64 (x69_3 + 1))] rfl (by (try simp only [List.map_toArray, List.map_cons, List.map_nil]); first | done | rfl | (simp only [List.length_drop, List.length_take]; rfl)) ?_; (with_reducible refine (impl_watcher.calls _ _ l0_0 _ _ l0_1 a0_2 (wrap64 (x69_3 + 1)) t112006 _ ?side1 ?side2 ?side3 ?side4 A49.out).mono ?_); (case side1 => repeat (first | exact (Kd.C_below HR0_0.out HB.out) | (with_reducible refine Kd.C_alloc ?_ _) | (with_reducible refine Kd.C_drewN ?_ _) | (with_reducible refine Kd.C_drew ?_))); (case side2 => exact HC0_0.out); (case side3 => repeat (first | exact (Kd.C_below HR0_1.out HB.out) | (with_reducible refine Kd.C_alloc ?_ _) | (with_reducible refine Kd.C_drewN ?_ _) | (with_reducible refine Kd.C_drew ?_))); (case side4 => exact HC0_1.out); rintro e w68 ⟨rfl, hb⟩; refine ⟨_, rfl, ?_⟩; have n0_ := Aside0.mk (blk_below (g := gb112001) (o := .cells #[.slice A0_0 l0_0.length c0_0, .slice A0_1 l0_1.length c0_1, .int .i64 a0_2] 66 (0, 0)) (by (with_reducible repeat (first | refine blk_drewN ?_ _ | refine blk_drew ?_ | refine blk_alloc ?_ _)); exact BK112001.out) hb); have n1_ := Aside0.mk (blk_below (g := gb112002) (o := .cells #[.int .i64 a1_0, .slice A1_1 l1_1.length c1_1, .slice (some ad112005) l1_2.length c1_2] 80 (0, 0)) (by (with_reducible repeat (first | refine blk_drewN ?_ _ | refine blk_drew ?_ | refine blk_alloc ?_ _)); exact BK112002.out) hb); have n2_ := Aside0.mk (below_step (by repeat (first | (with_reducible first | exact HB.out | apply below_alloc | apply pw_below_drewN | apply below_drew1 | refine below_set ?_ GE112001.out | refine below_set ?_ GE112002.out) | exact HB.out)) hb); clear BK112001; clear BK112002; clear HB; have BK112001 := n0_; have BK112002 := n1_; have HB := n2_; clear n0_ n1_ n2_; (try clear hb); (try clear hb2); (try clear hk); (try clear hi)))
                            go_roundg k3
                            case measure => have := HJ2.out; have := HK2.out; have := HK3.out; omega
                            case rel => exact ⟨(wrap64 (x69_3 + 1)), (by first | rfl | (simp; done) | (simp [*]; done)), H', ⟨by have := HJ2.out; have := HK2.out; have := HK3.out; omega⟩, ⟨by (with_reducible repeat (first | refine blk_drewN ?_ _ | refine blk_drew ?_ | refine blk_alloc ?_ _)); exact BK112001.out⟩, ⟨by (with_reducible repeat (first | refine blk_drewN ?_ _ | refine blk_drew ?_ | refine blk_alloc ?_ _)); exact BK112002.out⟩, ⟨by repeat (first | (with_reducible first | exact HB.out | apply below_alloc | apply pw_below_drewN | apply below_drew1 | refine below_set ?_ GE112001.out | refine below_set ?_ GE112002.out) | exact HB.out)⟩⟩
                      · rw [if_neg c48] at H
                        exact absurd H (by simp)
                    · rw [if_neg c47] at H
                      exact absurd H (by simp)
                  · rw [if_neg c46] at H
                    have c46b0 : decide (x69_3 < (l1_2.length : Int)) = false := decide_eq_false c46
                    clear c46
                    obtain rfl := Option.some.inj H
                    go_wp2
                    go_ret
                    exact ⟨by first | rfl | (simp [errW_none, errW_some] <;> rfl) | (simp [*, errW_none, errW_some] <;> rfl), by repeat (first | (with_reducible first | exact HB.out | apply below_alloc | apply pw_below_drewN | apply below_drew1 | refine below_set ?_ GE112001.out | refine below_set ?_ GE112002.out) | exact HB.out)⟩

end Go.Proofs.Ytpoffpdaadhkgaa.Pr

namespace Go.Proofs.Ytpoffpdaadhkgaa.Pr
open Go.RowKit Go.Proofs.YtpoffpdaadhkgaaW.PrintWords Go.Proofs.YtpoffpdaadhkgaaW.PrintLast Go.Proofs.YtpoffpdaadhkgaaW.PrintMore
attribute [local go_sem] max2_int min2_int max_two min_two max_three min_three max_four min_four
set_option linter.unusedVariables false
set_option linter.unusedSimpArgs false

/-! ### impl_isWatched: function 98 -/
def impl_isWatched.f (k : Nat) (l0_0 : List (S120)) (l0_1 : List (S126)) (a0_2 : Int) (l1 : List Int) (a2 : Int) : Option (Bool) := (impl_propOf.f a2).bind fun t98002 => ((impl_watcher.f l0_0 l0_1 a0_2 t98002).bind fun t98003 => (if t98003 < 0 then (some false) else (if 0 ≤ t98003 then (if t98003 < (l0_0.length : Int) then ((slices_Contains_int_int.f ((rd_T120 l0_0 t98003).f1) a2).bind fun t98005 => (if t98005 = true then (some false) else ((slices_Contains_int_int.f ((rd_T120 l0_0 t98003).f1) (wrap64 (-a2))).bind fun t98006 => (if t98006 = true then (some false) else ((impl_ImpliesLabel.f k l1 ((rd_T120 l0_0 t98003).f1)).bind fun t98007 => (some t98007)))))) else (none)) else (none))))
set_option maxHeartbeats 8000000 in
set_option maxRecDepth 100000 in
theorem impl_isWatched.calls (k : Nat) (A0_0 : Option Addr) (c0_0 : Nat) (l0_0 : List (S120)) (A0_1 : Option Addr) (c0_1 : Nat) (l0_1 : List (S126)) (a0_2 : Int) (A1 : Option Addr) (c1 : Nat) (l1 : List Int) (a2 : Int) (r : Bool) (w : World) (hr0_0 : Kd.C k120 w A0_0 l0_0.length l0_0) (hc0_0 : l0_0.length ≤ c0_0) (hr0_1 : Kd.C k126 w A0_1 l0_1.length l0_1) (hc0_1 : l0_1.length ≤ c0_1) (hr1 : Kd.C (Kd.int .i64) w A1 l1.length l1) (hc1 : l1.length ≤ c1) (h : impl_isWatched.f k l0_0 l0_1 a0_2 l1 a2 = some r) :
    Calls Try.prog 98 #[.agg #[.slice A0_0 l0_0.length c0_0, .slice A0_1 l0_1.length c0_1, .int .i64 a0_2], .slice A1 l1.length c1, .int .i64 a2] w fun e w' => e = .returned (.bool r) ∧ Below w.heap.size w w' := by
  have hu66 := Try.underlying66
  have HR0_0 := Aside0.mk hr0_0
  have HC0_0 := Aside0.mk hc0_0
  clear hr0_0 hc0_0
  have HR0_1 := Aside0.mk hr0_1
  have HC0_1 := Aside0.mk hc0_1
  clear hr0_1 hc0_1
  have HR1 := Aside0.mk hr1
  have HC1 := Aside0.mk hc1
  clear hr1 hc1
  have HB := Aside0.mk (Below.refl w.heap.size w)
  have H : ((impl_propOf.f a2).bind fun t98002 => ((impl_watcher.f l0_0 l0_1 a0_2 t98002).bind fun t98003 => (if t98003 < 0 then (some false) else (if 0 ≤ t98003 then (if t98003 < (l0_0.length : Int) then ((slices_Contains_int_int.f ((rd_T120 l0_0 t98003).f1) a2).bind fun t98005 => (if t98005 = true then (some false) else ((slices_Contains_int_int.f ((rd_T120 l0_0 t98003).f1) (wrap64 (-a2))).bind fun t98006 => (if t98006 = true then (some false) else ((impl_ImpliesLabel.f k l1 ((rd_T120 l0_0 t98003).f1)).bind fun t98007 => (some t98007)))))) else (none)) else (none))))) = some r := h
  clear h
  replace H := Option.bind_eq_some_iff.mp H
  obtain ⟨t98002, A40, H⟩ := H
  replace H : ((impl_watcher.f l0_0 l0_1 a0_2 t98002).bind fun t98003 => (if t98003 < 0 then (some false) else (if 0 ≤ t98003 then (if t98003 < (l0_0.length : Int) then ((slices_Contains_int_int.f ((rd_T120 l0_0 t98003).f1) a2).bind fun t98005 => (if t98005 = true then (some false) else ((slices_Contains_int_int.f ((rd_T120 l0_0 t98003).f1) (wrap64 (-a2))).bind fun t98006 => (if t98006 = true then (some false) else ((impl_ImpliesLabel.f k l1 ((rd_T120 l0_0 t98003).f1)).bind fun t98007 => (some t98007)))))) else (none)) else (none)))) = some r := H
  have A4 := Aside0.mk A40
  clear A40
  replace H := Option.bind_eq_some_iff.mp H
  obtain ⟨t98003, A50, H⟩ := H
  replace H : (if t98003 < 0 then (some false) else (if 0 ≤ t98003 then (if t98003 < (l0_0.length : Int) then ((slices_Contains_int_int.f ((rd_T120 l0_0 t98003).f1) a2).bind fun t98005 => (if t98005 = true then (some false) else ((slices_Contains_int_int.f ((rd_T120 l0_0 t98003).f1) (wrap64 (-a2))).bind fun t98006 => (if t98006 = true then (some false) else ((impl_ImpliesLabel.f k l1 ((rd_T120 l0_0 t98003).f1)).bind fun t98007 => (some t98007)))))) else (none)) else (none))) = some r := H
  have A5 := Aside0.mk A50
  clear A50
  by_cases c6 : t98003 < 0
  · rw [if_pos c6] at H
    have c6b0 : decide (t98003 < 0) = true := decide_eq_true c6
    clear c6
    obtain rfl := Option.some.inj H
    go_enter Try.func98, Try.ntmps98
    try go_wp2_with (first | ((with_reducible refine gate_dst (N := 3) rfl ?_); refine box_event ?hg (N := 3) ?hd (cs := #[.slice A0_0 l0_0.length c0_0, .slice A0_1 l0_1.length c0_1, .int .i64 a0_2]) (t := 66) ?hr ?_; (case hd => rfl); (case hg => rfl); (case hr => first | (go_simp; done) | (go_simp; rfl)); intro gb98001 hg w7 hbox hb; have n0_ := Aside0.mk (below_step (by repeat (first | (with_reducible first | exact HB.out | apply below_alloc | apply pw_below_drewN | apply below_drew1) | exact HB.out)) hb); have n1_ := Aside0.mk (hbox); have n2_ := Aside0.mk ((by rw [hg]; exact (below_size (by repeat (first | (with_reducible first | exact HB.out | apply below_alloc | apply pw_below_drewN | apply below_drew1) | exact HB.out))) : w.heap.size ≤ gb98001)); have n3_ := Aside0.mk ((by rw [hg]; exact (below_size (by repeat (first | (with_reducible first | exact HB.out | apply below_alloc | apply pw_below_drewN | apply below_drew1) | exact HB.out))) : w.heap.size ≤ gb98001)); clear HB; have HB := n0_; have BK98001 := n1_; have GW98001 := n2_; have GE98001 := n3_; clear n0_ n1_ n2_ n3_; clear hb hbox hg))
    have n0_ := Aside0.mk (blk_drew BK98001.out)
    have n1_ := Aside0.mk (below_drew1 HB.out)
    clear BK98001
    clear HB
    have BK98001 := n0_
    have HB := n1_
    clear n0_ n1_
    refine start_ (n := 5) (S := fun w' => w'.cell? ⟨gb98001, 0, none⟩ = some (.slice A0_0 l0_0.length c0_0) ∧ w'.cell? ⟨gb98001, 1, none⟩ = some (.slice A0_1 l0_1.length c0_1) ∧ w'.cell? ⟨gb98001, 2, none⟩ = some (.int .i64 a0_2)) (ds := []) #[false, false, false, false, false] (by kernel_rfl) rfl rfl ⟨(blk_cell BK98001.out 0).trans rfl, (blk_cell BK98001.out 1).trans rfl, (blk_cell BK98001.out 2).trans rfl⟩ (fun hHeld => ?_)
    generalize w7.drew = w8 at BK98001 HB hHeld ⊢
    refine pure_ (i := 1) (N := some 10) (v := ?_) (a' := ?_) #[false, true, false, false, false] rfl rfl (by kernel_rfl) (fun _ _ _ h => h) (Or.inl ⟨by rfl, ?_⟩) ?_ ?_
    rotate_left
    · intro w'
      go_simp
      with_reducible rfl
    rotate_left
    · simp only [Act.put, List.setIfInBounds_toArray, List.set_cons_zero, List.set_cons_succ, i64_w, i32_w]
      rfl
    refine take_ (i := 0) (N := some 9) (v := ?_) (a' := ?_) #[true, true, false, false, false] rfl rfl (by kernel_rfl) (fun _ _ _ h => h) (Or.inl ⟨by rfl, ?_⟩) hHeld ?_ ?_
    rotate_left
    · rintro w' ⟨s0, s1, s2⟩
      go_simp
      with_reducible rfl
    rotate_left
    · simp only [Act.put, List.setIfInBounds_toArray, List.set_cons_zero, List.set_cons_succ, i64_w, i32_w]
      rfl
    refine one_ (i := 2) (N := some 11) #[true, true, true, false, false] rfl rfl (by kernel_rfl) (by decide) (fun K hK => ?_)
    refine goes_ Try.func150 (by kernel_rfl) rfl #[.int .i64 a2] (by rfl) rfl rfl (by (try simp only [List.map_toArray, List.map_cons, List.map_nil]); first | done | rfl | (simp only [List.length_drop, List.length_take]; rfl)) ?_
    with_reducible refine (impl_propOf.calls a2 t98002 _ A4.out).mono ?_
    rintro e w9 ⟨rfl, hb⟩
    refine ⟨_, rfl, ?_⟩
    have n0_ := Aside0.mk (blk_below (g := gb98001) (o := .cells #[.slice A0_0 l0_0.length c0_0, .slice A0_1 l0_1.length c0_1, .int .i64 a0_2] 66 (0, 0)) (by (with_reducible repeat (first | refine blk_drewN ?_ _ | refine blk_drew ?_ | refine blk_alloc ?_ _)); exact BK98001.out) hb)
    have n1_ := Aside0.mk (below_step (by repeat (first | (with_reducible first | exact HB.out | apply below_alloc | apply pw_below_drewN | apply below_drew1 | refine below_set ?_ GE98001.out) | exact HB.out)) hb)
    clear BK98001
    clear HB
    have BK98001 := n0_
    have HB := n1_
    clear n0_ n1_
    (try clear hb)
    (try clear hb2)
    (try clear hk)
    (try clear hi)
    refine hK.out _ _ ⟨(blk_cell BK98001.out 0).trans rfl, (blk_cell BK98001.out 1).trans rfl, (blk_cell BK98001.out 2).trans rfl⟩ (fun hHeld => ?_)
    clear hK K
    refine norm_ (a' := ?_) ?_ ?_
    rotate_left
    · show Act.put _ (some 11) _ = _
      simp only [Act.put, List.setIfInBounds_toArray, List.set_cons_zero, List.set_cons_succ, i64_w, i32_w]
      rfl
    refine one_ (i := 3) (N := some 12) #[true, true, true, true, false] rfl rfl (by kernel_rfl) (by decide) (fun K hK => ?_)
    refine goes_ Try.func102 (by kernel_rfl) rfl #[.agg #[.slice A0_0 l0_0.length c0_0, .slice A0_1 l0_1.length c0_1, .int .i64 a0_2], .int .i64 t98002] (by rfl) rfl rfl (by (try simp only [List.map_toArray, List.map_cons, List.map_nil]); first | done | rfl | (simp only [List.length_drop, List.length_take]; rfl)) ?_
    with_reducible refine (impl_watcher.calls _ _ l0_0 _ _ l0_1 a0_2 t98002 t98003 _ ?side1 ?side2 ?side3 ?side4 A5.out).mono ?_
    (case side1 => repeat (first | exact (Kd.C_below HR0_0.out HB.out) | (with_reducible refine Kd.C_alloc ?_ _) | (with_reducible refine Kd.C_drewN ?_ _) | (with_reducible refine Kd.C_drew ?_)))
    (case side2 => exact HC0_0.out)
    (case side3 => repeat (first | exact (Kd.C_below HR0_1.out HB.out) | (with_reducible refine Kd.C_alloc ?_ _) | (with_reducible refine Kd.C_drewN ?_ _) | (with_reducible refine Kd.C_drew ?_)))
    (case side4 => exact HC0_1.out)
    rintro e w10 ⟨rfl, hb⟩
    refine ⟨_, rfl, ?_⟩
    have n0_ := Aside0.mk (blk_below (g := gb98001) (o := .cells #[.slice A0_0 l0_0.length c0_0, .slice A0_1 l0_1.length c0_1, .int .i64 a0_2] 66 (0, 0)) (by (with_reducible repeat (first | refine blk_drewN ?_ _ | refine blk_drew ?_ | refine blk_alloc ?_ _)); exact BK98001.out) hb)
    have n1_ := Aside0.mk (below_step (by repeat (first | (with_reducible first | exact HB.out | apply below_alloc | apply pw_below_drewN | apply below_drew1 | refine below_set ?_ GE98001.out) | exact HB.out)) hb)
    clear BK98001
    clear HB
    have BK98001 := n0_
    have HB := n1_
    clear n0_ n1_
    (try clear hb)
    (try clear hb2)
    (try clear hk)
    (try clear hi)
    refine hK.out _ _ ⟨(blk_cell BK98001.out 0).trans rfl, (blk_cell BK98001.out 1).trans rfl, (blk_cell BK98001.out 2).trans rfl⟩ (fun hHeld => ?_)
    clear hK K
    refine norm_ (a' := ?_) ?_ ?_
    rotate_left
    · show Act.put _ (some 12) _ = _
      simp only [Act.put, List.setIfInBounds_toArray, List.set_cons_zero, List.set_cons_succ, i64_w, i32_w]
      rfl
    refine pure_ (i := 4) (N := some 7) (v := ?_) (a' := ?_) #[true, true, true, true, true] rfl rfl (by kernel_rfl) (fun _ _ _ h => h) (Or.inl ⟨by rfl, ?_⟩) ?_ ?_
    rotate_left
    · intro w'
      go_simp
      with_reducible rfl
    rotate_left
    · simp only [Act.put, List.setIfInBounds_toArray, List.set_cons_zero, List.set_cons_succ, i64_w, i32_w]
      rfl
    refine done_ (by kernel_rfl) ?_
    try go_wp2
    go_ret
    exact ⟨by first | rfl | (simp [errW_none, errW_some] <;> rfl) | (simp [*, errW_none, errW_some] <;> rfl), by repeat (first | (with_reducible first | exact HB.out | apply below_alloc | apply pw_below_drewN | apply below_drew1 | refine below_set ?_ GE98001.out) | exact HB.out)⟩
  · rw [if_neg c6] at H
    have c6b0 : decide (t98003 < 0) = false := decide_eq_false c6
    clear c6
    by_cases c11 : 0 ≤ t98003
    · rw [if_pos c11] at H
      have c11b0 : decide (0 ≤ t98003) = true := decide_eq_true c11
      clear c11
      by_cases c12 : t98003 < (l0_0.length : Int)
      · rw [if_pos c12] at H
        have c12b0 : decide (t98003 < (l0_0.length : Int)) = true := decide_eq_true c12
        clear c12
        replace H := Option.bind_eq_some_iff.mp H
        obtain ⟨t98005, A130, H⟩ := H
        replace H : (if t98005 = true then (some false) else ((slices_Contains_int_int.f ((rd_T120 l0_0 t98003).f1) (wrap64 (-a2))).bind fun t98006 => (if t98006 = true then (some false) else ((impl_ImpliesLabel.f k l1 ((rd_T120 l0_0 t98003).f1)).bind fun t98007 => (some t98007))))) = some r := H
        have A13 := Aside0.mk A130
        clear A130
        by_cases c14 : t98005 = true
        · subst c14
          have H1 : (some false) = some r := by rw [if_pos rfl] at H; exact H
          clear H
          have H := H1
          clear H1
          obtain rfl := Option.some.inj H
          go_enter Try.func98, Try.ntmps98
          try go_wp2_with (first | ((with_reducible refine gate_dst (N := 3) rfl ?_); refine box_event ?hg (N := 3) ?hd (cs := #[.slice A0_0 l0_0.length c0_0, .slice A0_1 l0_1.length c0_1, .int .i64 a0_2]) (t := 66) ?hr ?_; (case hd => rfl); (case hg => rfl); (case hr => first | (go_simp; done) | (go_simp; rfl)); intro gb98001 hg w15 hbox hb; have n0_ := Aside0.mk (below_step (by repeat (first | (with_reducible first | exact HB.out | apply below_alloc | apply pw_below_drewN | apply below_drew1) | exact HB.out)) hb); have n1_ := Aside0.mk (hbox); have n2_ := Aside0.mk ((by rw [hg]; exact (below_size (by repeat (first | (with_reducible first | exact HB.out | apply below_alloc | apply pw_below_drewN | apply below_drew1) | exact HB.out))) : w.heap.size ≤ gb98001)); have n3_ := Aside0.mk ((by rw [hg]; exact (below_size (by repeat (first | (with_reducible first | exact HB.out | apply below_alloc | apply pw_below_drewN | apply below_drew1) | exact HB.out))) : w.heap.size ≤ gb98001)); clear HB; have HB := n0_; have BK98001 := n1_; have GW98001 := n2_; have GE98001 := n3_; clear n0_ n1_ n2_ n3_; clear hb hbox hg))
          have n0_ := Aside0.mk (blk_drew BK98001.out)
          have n1_ := Aside0.mk (below_drew1 HB.out)
          clear BK98001
          clear HB
          have BK98001 := n0_
          have HB := n1_
          clear n0_ n1_
          refine start_ (n := 5) (S := fun w' => w'.cell? ⟨gb98001, 0, none⟩ = some (.slice A0_0 l0_0.length c0_0) ∧ w'.cell? ⟨gb98001, 1, none⟩ = some (.slice A0_1 l0_1.length c0_1) ∧ w'.cell? ⟨gb98001, 2, none⟩ = some (.int .i64 a0_2)) (ds := []) #[false, false, false, false, false] (by kernel_rfl) rfl rfl ⟨(blk_cell BK98001.out 0).trans rfl, (blk_cell BK98001.out 1).trans rfl, (blk_cell BK98001.out 2).trans rfl⟩ (fun hHeld => ?_)
          generalize w15.drew = w16 at BK98001 HB hHeld ⊢
          refine pure_ (i := 1) (N := some 10) (v := ?_) (a' := ?_) #[false, true, false, false, false] rfl rfl (by kernel_rfl) (fun _ _ _ h => h) (Or.inl ⟨by rfl, ?_⟩) ?_ ?_
          rotate_left
          · intro w'
            go_simp
            with_reducible rfl
          rotate_left
          · simp only [Act.put, List.setIfInBounds_toArray, List.set_cons_zero, List.set_cons_succ, i64_w, i32_w]
            rfl
          refine take_ (i := 0) (N := some 9) (v := ?_) (a' := ?_) #[true, true, false, false, false] rfl rfl (by kernel_rfl) (fun _ _ _ h => h) (Or.inl ⟨by rfl, ?_⟩) hHeld ?_ ?_
          rotate_left
          · rintro w' ⟨s0, s1, s2⟩
            go_simp
            with_reducible rfl
          rotate_left
          · simp only [Act.put, List.setIfInBounds_toArray, List.set_cons_zero, List.set_cons_succ, i64_w, i32_w]
            rfl
          refine one_ (i := 2) (N := some 11) #[true, true, true, false, false] rfl rfl (by kernel_rfl) (by decide) (fun K hK => ?_)
          refine goes_ Try.func150 (by kernel_rfl) rfl #[.int .i64 a2] (by rfl) rfl rfl (by (try simp only [List.map_toArray, List.map_cons, List.map_nil]); first | done | rfl | (simp only [List.length_drop, List.length_take]; rfl)) ?_
          with_reducible refine (impl_propOf.calls a2 t98002 _ A4.out).mono ?_
          rintro e w17 ⟨rfl, hb⟩
          refine ⟨_, rfl, ?_⟩
          have n0_ := Aside0.mk (blk_below (g := gb98001) (o := .cells #[.slice A0_0 l0_0.length c0_0, .slice A0_1 l0_1.length c0_1, .int .i64 a0_2] 66 (0, 0)) (by (with_reducible repeat (first | refine blk_drewN ?_ _ | refine blk_drew ?_ | refine blk_alloc ?_ _)); exact BK98001.out) hb)
          have n1_ := Aside0.mk (below_step (by repeat (first | (with_reducible first | exact HB.out | apply below_alloc | apply pw_below_drewN | apply below_drew1 | refine below_set ?_ GE98001.out) | exact HB.out)) hb)
          clear BK98001
          clear HB
          have BK98001 := n0_
          have HB := n1_
          clear n0_ n1_
          (try clear hb)
          (try clear hb2)
          (try clear hk)
          (try clear hi)
          refine hK.out _ _ ⟨(blk_cell BK98001.out 0).trans rfl, (blk_cell BK98001.out 1).trans rfl, (blk_cell BK98001.out 2).trans rfl⟩ (fun hHeld => ?_)
          clear hK K
          refine norm_ (a' := ?_) ?_ ?_
          rotate_left
          · show Act.put _ (some 11) _ = _
            simp only [Act.put, List.setIfInBounds_toArray, List.set_cons_zero, List.set_cons_succ, i64_w, i32_w]
            rfl
          refine one_ (i := 3) (N := some 12) #[true, true, true, true, false] rfl rfl (by kernel_rfl) (by decide) (fun K hK => ?_)
          refine goes_ Try.func102 (by kernel_rfl) rfl #[.agg #[.slice A0_0 l0_0.length c0_0, .slice A0_1 l0_1.length c0_1, .int .i64 a0_2], .int .i64 t98002] (by rfl) rfl rfl (by (try simp only [List.map_toArray, List.map_cons, List.map_nil]); first | done | rfl | (simp only [List.length_drop, List.length_take]; rfl)) ?_
          with_reducible refine (impl_watcher.calls _ _ l0_0 _ _ l0_1 a0_2 t98002 t98003 _ ?side1 ?side2 ?side3 ?side4 A5.out).mono ?_
          (case side1 => repeat (first | exact (Kd.C_below HR0_0.out HB.out) | (with_reducible refine Kd.C_alloc ?_ _) | (with_reducible refine Kd.C_drewN ?_ _) | (with_reducible refine Kd.C_drew ?_)))
          (case side2 => exact HC0_0.out)
          (case side3 => repeat (first | exact (Kd.C_below HR0_1.out HB.out) | (with_reducible refine Kd.C_alloc ?_ _) | (with_reducible refine Kd.C_drewN ?_ _) | (with_reducible refine Kd.C_drew ?_)))
          (case side4 => exact HC0_1.out)
          rintro e w18 ⟨rfl, hb⟩
          refine ⟨_, rfl, ?_⟩
          have n0_ := Aside0.mk (blk_below (g := gb98001) (o := .cells #[.slice A0_0 l0_0.length c0_0, .slice A0_1 l0_1.length c0_1, .int .i64 a0_2] 66 (0, 0)) (by (with_reducible repeat (first | refine blk_drewN ?_ _ | refine blk_drew ?_ | refine blk_alloc ?_ _)); exact BK98001.out) hb)
          have n1_ := Aside0.mk (below_step (by repeat (first | (with_reducible first | exact HB.out | apply below_alloc | apply pw_below_drewN | apply below_drew1 | refine below_set ?_ GE98001.out) | exact HB.out)) hb)
          clear BK98001
          clear HB
          have BK98001 := n0_
          have HB := n1_
          clear n0_ n1_
          (try clear hb)
          (try clear hb2)
          (try clear hk)
          (try clear hi)
          refine hK.out _ _ ⟨(blk_cell BK98001.out 0).trans rfl, (blk_cell BK98001.out 1).trans rfl, (blk_cell BK98001.out 2).trans rfl⟩ (fun hHeld => ?_)
          clear hK K
          refine norm_ (a' := ?_) ?_ ?_
          rotate_left
          · show Act.put _ (some 12) _ = _
            simp only [Act.put, List.setIfInBounds_toArray, List.set_cons_zero, List.set_cons_succ, i64_w, i32_w]
            rfl
          refine pure_ (i := 4) (N := some 7) (v := ?_) (a' := ?_) #[true, true, true, true, true] rfl rfl (by kernel_rfl) (fun _ _ _ h => h) (Or.inl ⟨by rfl, ?_⟩) ?_ ?_
          rotate_left
          · intro w'
            go_simp
            with_reducible rfl
          rotate_left
          · simp only [Act.put, List.setIfInBounds_toArray, List.set_cons_zero, List.set_cons_succ, i64_w, i32_w]
            rfl
          refine done_ (by kernel_rfl) ?_
          have hcz19_0 : w18.cell? ⟨gb98001, 0, none⟩ = some (.slice A0_0 l0_0.length c0_0) := (blk_cell BK98001.out 0).trans rfl
          have hcz19_1 : w18.cell? ⟨gb98001, 1, none⟩ = some (.slice A0_1 l0_1.length c0_1) := (blk_cell BK98001.out 1).trans rfl
          have hcz19_2 : w18.cell? ⟨gb98001, 2, none⟩ = some (.int .i64 a0_2) := (blk_cell BK98001.out 2).trans rfl
          have hfz19_0 := blk_frozen BK98001.out 0
          have hfz19_1 := blk_frozen BK98001.out 1
          have hfz19_2 := blk_frozen BK98001.out 2
          have p98004 : 0 ≤ (t98003 : Int) := of_decide_eq_true (by first | (with_reducible assumption) | assumption)
          have q98004 : t98003 < (l0_0.length : Int) := of_decide_eq_true (by first | (with_reducible assumption) | assumption)
          obtain ⟨ad98004, A98004_1, c98004_1, e98004, hx98004_0, hx98004_1, hx98004_2, hl98004_1, hi98004_1⟩ := at_T120 HR0_0.out t98003 p98004 q98004
          cases e98004
          replace hx98004_0 := (HB.out.cell (World.block_lt_of_cell? w _ hx98004_0)).trans hx98004_0
          replace hx98004_1 := (HB.out.cell (World.block_lt_of_cell? w _ hx98004_1)).trans hx98004_1
          replace hx98004_2 := (HB.out.cell (World.block_lt_of_cell? w _ hx98004_2)).trans hx98004_2
          have HR98004_1 := Aside0.mk hi98004_1
          have HC98004_1 := Aside0.mk hl98004_1
          clear hi98004_1 hl98004_1
          replace p98004 := eq_true p98004
          replace q98004 := eq_true q98004
          try go_wp2_with (first | ((with_reducible refine gate_callee (f := 151) rfl ?_); refine goesL_ (some 23) rfl rfl Try.func151 (by kernel_rfl) rfl #[.slice A98004_1 ((rd_T120 l0_0 t98003).f1).length c98004_1, .int .i64 a2] rfl (by (try simp only [List.map_toArray, List.map_cons, List.map_nil]); first | done | rfl | (simp only [List.length_drop, List.length_take]; rfl)) ?_; (with_reducible refine (slices_Contains_int_int.calls _ _ ((rd_T120 l0_0 t98003).f1) a2 true _ ?side1 ?side2 A13.out).mono ?_); (case side1 => repeat (first | exact (Kd.C_below HR98004_1.out HB.out) | (with_reducible refine Kd.C_alloc ?_ _) | (with_reducible refine Kd.C_drewN ?_ _) | (with_reducible refine Kd.C_drew ?_))); (case side2 => exact HC98004_1.out); rintro e w20 ⟨rfl, hb⟩; refine ⟨_, rfl, ?_⟩; have n0_ := Aside0.mk (blk_below (g := gb98001) (o := .cells #[.slice (some ad98004) l0_0.length c0_0, .slice A0_1 l0_1.length c0_1, .int .i64 a0_2] 66 (0, 0)) (by (with_reducible repeat (first | refine blk_drewN ?_ _ | refine blk_drew ?_ | refine blk_alloc ?_ _)); exact BK98001.out) hb); have n1_ := Aside0.mk (below_step (by repeat (first | (with_reducible first | exact HB.out | apply below_alloc | apply pw_below_drewN | apply below_drew1 | refine below_set ?_ GE98001.out) | exact HB.out)) hb); clear BK98001; clear HB; have BK98001 := n0_; have HB := n1_; clear n0_ n1_; (try clear hb); (try clear hb2); (try clear hk); (try clear hi)))
          go_ret
          exact ⟨by first | rfl | (simp [errW_none, errW_some] <;> rfl) | (simp [*, errW_none, errW_some] <;> rfl), by repeat (first | (with_reducible first | exact HB.out | apply below_alloc | apply pw_below_drewN | apply below_drew1 | refine below_set ?_ GE98001.out) | exact HB.out)⟩
        · replace c14 := Bool.eq_false_iff.mpr c14
          subst c14
          have H1 : ((slices_Contains_int_int.f ((rd_T120 l0_0 t98003).f1) (wrap64 (-a2))).bind fun t98006 => (if t98006 = true then (some false) else ((impl_ImpliesLabel.f k l1 ((rd_T120 l0_0 t98003).f1)).bind fun t98007 => (some t98007)))) = some r := by rw [if_neg (show ¬ (false = true) by decide)] at H; exact H
          clear H
          have H := H1
          clear H1
          replace H := Option.bind_eq_some_iff.mp H
          obtain ⟨t98006, A210, H⟩ := H
          replace H : (if t98006 = true then (some false) else ((impl_ImpliesLabel.f k l1 ((rd_T120 l0_0 t98003).f1)).bind fun t98007 => (some t98007))) = some r := H
          have A21 := Aside0.mk A210
          clear A210
          by_cases c22 : t98006 = true
          · subst c22
            have H1 : (some false) = some r := by rw [if_pos rfl] at H; exact H
            clear H
            have H := H1
            clear H1
            obtain rfl := Option.some.inj H
            go_enter Try.func98, Try.ntmps98
            try go_wp2_with (first | ((with_reducible refine gate_dst (N := 3) rfl ?_); refine box_event ?hg (N := 3) ?hd (cs := #[.slice A0_0 l0_0.length c0_0, .slice A0_1 l0_1.length c0_1, .int .i64 a0_2]) (t := 66) ?hr ?_; (case hd => rfl); (case hg => rfl); (case hr => first | (go_simp; done) | (go_simp; rfl)); intro gb98001 hg w23 hbox hb; have n0_ := Aside0.mk (below_step (by repeat (first | (with_reducible first | exact HB.out | apply below_alloc | apply pw_below_drewN | apply below_drew1) | exact HB.out)) hb); have n1_ := Aside0.mk (hbox); have n2_ := Aside0.mk ((by rw [hg]; exact (below_size (by repeat (first | (with_reducible first | exact HB.out | apply below_alloc | apply pw_below_drewN | apply below_drew1) | exact HB.out))) : w.heap.size ≤ gb98001)); have n3_ := Aside0.mk ((by rw [hg]; exact (below_size (by repeat (first | (with_reducible first | exact HB.out | apply below_alloc | apply pw_below_drewN | apply below_drew1) | exact HB.out))) : w.heap.size ≤ gb98001)); clear HB; have HB := n0_; have BK98001 := n1_; have GW98001 := n2_; have GE98001 := n3_; clear n0_ n1_ n2_ n3_; clear hb hbox hg))
            have n0_ := Aside0.mk (blk_drew BK98001.out)
            have n1_ := Aside0.mk (below_drew1 HB.out)
            clear BK98001
            clear HB
            have BK98001 := n0_
            have HB := n1_
            clear n0_ n1_
            refine start_ (n := 5) (S := fun w' => w'.cell? ⟨gb98001, 0, none⟩ = some (.slice A0_0 l0_0.length c0_0) ∧ w'.cell? ⟨gb98001, 1, none⟩ = some (.slice A0_1 l0_1.length c0_1) ∧ w'.cell? ⟨gb98001, 2, none⟩ = some (.int .i64 a0_2)) (ds := []) #[false, false, false, false, false] (by kernel_rfl) rfl rfl ⟨(blk_cell BK98001.out 0).trans rfl, (blk_cell BK98001.out 1).trans rfl, (blk_cell BK98001.out 2).trans rfl⟩ (fun hHeld => ?_)
            generalize w23.drew = w24 at BK98001 HB hHeld ⊢
            refine pure_ (i := 1) (N := some 10) (v := ?_) (a' := ?_) #[false, true, false, false, false] rfl rfl (by kernel_rfl) (fun _ _ _ h => h) (Or.inl ⟨by rfl, ?_⟩) ?_ ?_
            rotate_left
            · intro w'
              go_simp
              with_reducible rfl
            rotate_left
            · simp only [Act.put, List.setIfInBounds_toArray, List.set_cons_zero, List.set_cons_succ, i64_w, i32_w]
              rfl
            refine take_ (i := 0) (N := some 9) (v := ?_) (a' := ?_) #[true, true, false, false, false] rfl rfl (by kernel_rfl) (fun _ _ _ h => h) (Or.inl ⟨by rfl, ?_⟩) hHeld ?_ ?_
            rotate_left
            · rintro w' ⟨s0, s1, s2⟩
              go_simp
              with_reducible rfl
            rotate_left
            · simp only [Act.put, List.setIfInBounds_toArray, List.set_cons_zero, List.set_cons_succ, i64_w, i32_w]
              rfl
            refine one_ (i := 2) (N := some 11) #[true, true, true, false, false] rfl rfl (by kernel_rfl) (by decide) (fun K hK => ?_)
            refine goes_ Try.func150 (by kernel_rfl) rfl #[.int .i64 a2] (by rfl) rfl rfl (by (try simp only [List.map_toArray, List.map_cons, List.map_nil]); first | done | rfl | (simp only [List.length_drop, List.length_take]; rfl)) ?_
            with_reducible refine (impl_propOf.calls a2 t98002 _ A4.out).mono ?_
            rintro e w25 ⟨rfl, hb⟩
            refine ⟨_, rfl, ?_⟩
            have n0_ := Aside0.mk (blk_below (g := gb98001) (o := .cells #[.slice A0_0 l0_0.length c0_0, .slice A0_1 l0_1.length c0_1, .int .i64 a0_2] 66 (0, 0)) (by (with_reducible repeat (first | refine blk_drewN ?_ _ | refine blk_drew ?_ | refine blk_alloc ?_ _)); exact BK98001.out) hb)
            have n1_ := Aside0.mk (below_step (by repeat (first | (with_reducible first | exact HB.out | apply below_alloc | apply pw_below_drewN | apply below_drew1 | refine below_set ?_ GE98001.out) | exact HB.out)) hb)
            clear BK98001
            clear HB
            have BK98001 := n0_
            have HB := n1_
            clear n0_ n1_
            (try clear hb)
            (try clear hb2)
            (try clear hk)
            (try clear hi)
            refine hK.out _ _ ⟨(blk_cell BK98001.out 0).trans rfl, (blk_cell BK98001.out 1).trans rfl, (blk_cell BK98001.out 2).trans rfl⟩ (fun hHeld => ?_)
            clear hK K
            refine norm_ (a' := ?_) ?_ ?_
            rotate_left
            · show Act.put _ (some 11) _ = _
              simp only [Act.put, List.setIfInBounds_toArray, List.set_cons_zero, List.set_cons_succ, i64_w, i32_w]
              rfl
            refine one_ (i := 3) (N := some 12) #[true, true, true, true, false] rfl rfl (by kernel_rfl) (by decide) (fun K hK => ?_)
            refine goes_ Try.func102 (by kernel_rfl) rfl #[.agg #[.slice A0_0 l0_0.length c0_0, .slice A0_1 l0_1.length c0_1, .int .i64 a0_2], .int .i64 t98002] (by rfl) rfl rfl (by (try simp only [List.map_toArray, List.map_cons, List.map_nil]); first | done | rfl | (simp only [List.length_drop, List.length_take]; rfl)) ?_
            with_reducible refine (impl_watcher.calls _ _ l0_0 _ _ l0_1 a0_2 t98002 t98003 _ ?side1 ?side2 ?side3 ?side4 A5.out).mono ?_
            (case side1 => repeat (first | exact (Kd.C_below HR0_0.out HB.out) | (with_reducible refine Kd.C_alloc ?_ _) | (with_reducible refine Kd.C_drewN ?_ _) | (with_reducible refine Kd.C_drew ?_)))
            (case side2 => exact HC0_0.out)
            (case side3 => repeat (first | exact (Kd.C_below HR0_1.out HB.out) | (with_reducible refine Kd.C_alloc ?_ _) | (with_reducible refine Kd.C_drewN ?_ _) | (with_reducible refine Kd.C_drew ?_)))
            (case side4 => exact HC0_1.out)
            rintro e w26 ⟨rfl, hb⟩
            refine ⟨_, rfl, ?_⟩
            have n0_ := Aside0.mk (blk_below (g := gb98001) (o := .cells #[.slice A0_0 l0_0.length c0_0, .slice A0_1 l0_1.length c0_1, .int .i64 a0_2] 66 (0, 0)) (by (with_reducible repeat (first | refine blk_drewN ?_ _ | refine blk_drew ?_ | refine blk_alloc ?_ _)); exact BK98001.out) hb)
            have n1_ := Aside0.mk (below_step (by repeat (first | (with_reducible first | exact HB.out | apply below_alloc | apply pw_below_drewN | apply below_drew1 | refine below_set ?_ GE98001.out) | exact HB.out)) hb)
            clear BK98001
            clear HB
            have BK98001 := n0_
            have HB := n1_
            clear n0_ n1_
            (try clear hb)
            (try clear hb2)
            (try clear hk)
            (try clear hi)
            refine hK.out _ _ ⟨(blk_cell BK98001.out 0).trans rfl, (blk_cell BK98001.out 1).trans rfl, (blk_cell BK98001.out 2).trans rfl⟩ (fun hHeld => ?_)
            clear hK K
            refine norm_ (a' := ?_) ?_ ?_
            rotate_left
            · show Act.put _ (some 12) _ = _
              simp only [Act.put, List.setIfInBounds_toArray, List.set_cons_zero, List.set_cons_succ, i64_w, i32_w]
              rfl
            refine pure_ (i := 4) (N := some 7) (v := ?_) (a' := ?_) #[true, true, true, true, true] rfl rfl (by kernel_rfl) (fun _ _ _ h => h) (Or.inl ⟨by rfl, ?_⟩) ?_ ?_
            rotate_left
            · intro w'
              go_simp
              with_reducible rfl
            rotate_left
            · simp only [Act.put, List.setIfInBounds_toArray, List.set_cons_zero, List.set_cons_succ, i64_w, i32_w]
              rfl
            refine done_ (by kernel_rfl) ?_
            have hcz27_0 : w26.cell? ⟨gb98001, 0, none⟩ = some (.slice A0_0 l0_0.length c0_0) := (blk_cell BK98001.out 0).trans rfl
            have hcz27_1 : w26.cell? ⟨gb98001, 1, none⟩ = some (.slice A0_1 l0_1.length c0_1) := (blk_cell BK98001.out 1).trans rfl
            have hcz27_2 : w26.cell? ⟨gb98001, 2, none⟩ = some (.int .i64 a0_2) := (blk_cell BK98001.out 2).trans rfl
            have hfz27_0 := blk_frozen BK98001.out 0
            have hfz27_1 := blk_frozen BK98001.out 1
            have hfz27_2 := blk_frozen BK98001.out 2
            have p98004 : 0 ≤ (t98003 : Int) := of_decide_eq_true (by first | (with_reducible assumption) | assumption)
            have q98004 : t98003 < (l0_0.length : Int) := of_decide_eq_true (by first | (with_reducible assumption) | assumption)
            obtain ⟨ad98004, A98004_1, c98004_1, e98004, hx98004_0, hx98004_1, hx98004_2, hl98004_1, hi98004_1⟩ := at_T120 HR0_0.out t98003 p98004 q98004
            cases e98004
            replace hx98004_0 := (HB.out.cell (World.block_lt_of_cell? w _ hx98004_0)).trans hx98004_0
            replace hx98004_1 := (HB.out.cell (World.block_lt_of_cell? w _ hx98004_1)).trans hx98004_1
            replace hx98004_2 := (HB.out.cell (World.block_lt_of_cell? w _ hx98004_2)).trans hx98004_2
            have HR98004_1 := Aside0.mk hi98004_1
            have HC98004_1 := Aside0.mk hl98004_1
            clear hi98004_1 hl98004_1
            replace p98004 := eq_true p98004
            replace q98004 := eq_true q98004
            try go_wp2_with (first | ((with_reducible refine gate_callee (f := 151) rfl ?_); refine goesL_ (some 23) rfl rfl Try.func151 (by kernel_rfl) rfl #[.slice A98004_1 ((rd_T120 l0_0 t98003).f1).length c98004_1, .int .i64 a2] rfl (by (try simp only [List.map_toArray, List.map_cons, List.map_nil]); first | done | rfl | (simp only [List.length_drop, List.length_take]; rfl)) ?_; (with_reducible refine (slices_Contains_int_int.calls _ _ ((rd_T120 l0_0 t98003).f1) a2 false _ ?side1 ?side2 A13.out).mono ?_); (case side1 => repeat (first | exact (Kd.C_below HR98004_1.out HB.out) | (with_reducible refine Kd.C_alloc ?_ _) | (with_reducible refine Kd.C_drewN ?_ _) | (with_reducible refine Kd.C_drew ?_))); (case side2 => exact HC98004_1.out); rintro e w28 ⟨rfl, hb⟩; refine ⟨_, rfl, ?_⟩; have n0_ := Aside0.mk (blk_below (g := gb98001) (o := .cells #[.slice (some ad98004) l0_0.length c0_0, .slice A0_1 l0_1.length c0_1, .int .i64 a0_2] 66 (0, 0)) (by (with_reducible repeat (first | refine blk_drewN ?_ _ | refine blk_drew ?_ | refine blk_alloc ?_ _)); exact BK98001.out) hb); have n1_ := Aside0.mk (below_step (by repeat (first | (with_reducible first | exact HB.out | apply below_alloc | apply pw_below_drewN | apply below_drew1 | refine below_set ?_ GE98001.out) | exact HB.out)) hb); clear BK98001; clear HB; have BK98001 := n0_; have HB := n1_; clear n0_ n1_; (try clear hb); (try clear hb2); (try clear hk); (try clear hi)) | (go_at_call 151; (with_reducible refine (slices_Contains_int_int.calls _ _ ((rd_T120 l0_0 t98003).f1) (wrap64 (-a2)) true _ ?side1 ?side2 A21.out).mono ?_); (case side1 => repeat (first | exact (Kd.C_below HR98004_1.out HB.out) | (with_reducible refine Kd.C_alloc ?_ _) | (with_reducible refine Kd.C_drewN ?_ _) | (with_reducible refine Kd.C_drew ?_))); (case side2 => exact HC98004_1.out); rintro e w29 ⟨rfl, hb⟩; have n0_ := Aside0.mk (blk_below (g := gb98001) (o := .cells #[.slice (some ad98004) l0_0.length c0_0, .slice A0_1 l0_1.length c0_1, .int .i64 a0_2] 66 (0, 0)) (by (with_reducible repeat (first | refine blk_drewN ?_ _ | refine blk_drew ?_ | refine blk_alloc ?_ _)); exact BK98001.out) hb); have n1_ := Aside0.mk (below_step (by repeat (first | (with_reducible first | exact HB.out | apply below_alloc | apply pw_below_drewN | apply below_drew1 | refine below_set ?_ GE98001.out) | exact HB.out)) hb); clear BK98001; clear HB; have BK98001 := n0_; have HB := n1_; clear n0_ n1_; (try clear hb); (try clear hb2); (try clear hk); (try clear hi)))
            go_ret
            exact ⟨by first | rfl | (simp [errW_none, errW_some] <;> rfl) | (simp [*, errW_none, errW_some] <;> rfl), by repeat (first | (with_reducible first | exact HB.out | apply below_alloc | apply pw_below_drewN | apply below_drew1 | refine below_set ?_ GE98001.out) | exact HB.out)⟩
          · replace c22 := Bool.eq_false_iff.mpr c22
            subst c22
            have H1 : ((impl_ImpliesLabel.f k l1 ((rd_T120 l0_0 t98003).f1)).bind fun t98007 => (some t98007)) = some r := by rw [if_neg (show ¬ (false = true) by decide)] at H; exact H
            clear H
            have H := H1
            clear H1
            replace H := Option.bind_eq_some_iff.mp H
            obtain ⟨t98007, A300, H⟩ := H
            replace H : (some t98007) = some r := H
            have A30 := Aside0.mk A300
            clear A300
            obtain rfl := Option.some.inj H
            go_enter Try.func98, Try.ntmps98
            try go_wp2_with (first | ((with_reducible refine gate_dst (N := 3) rfl ?_); refine box_event ?hg (N := 3) ?hd (cs := #[.slice A0_0 l0_0.length c0_0, .slice A0_1 l0_1.length c0_1, .int .i64 a0_2]) (t := 66) ?hr ?_; (case hd => rfl); (case hg => rfl); (case hr => first | (go_simp; done) | (go_simp; rfl)); intro gb98001 hg w31 hbox hb; have n0_ := Aside0.mk (below_step (by repeat (first | (with_reducible first | exact HB.out | apply below_alloc | apply pw_below_drewN | apply below_drew1) | exact HB.out)) hb); have n1_ := Aside0.mk (hbox); have n2_ := Aside0.mk ((by rw [hg]; exact (below_size (by repeat (first | (with_reducible first | exact HB.out | apply below_alloc | apply pw_below_drewN | apply below_drew1) | exact HB.out))) : w.heap.size ≤ gb98001)); have n3_ := Aside0.mk ((by rw [hg]; exact (below_size (by repeat (first | (with_reducible first | exact HB.out | apply below_alloc | apply pw_below_drewN | apply below_drew1) | exact HB.out))) : w.heap.size ≤ gb98001)); clear HB; have HB := n0_; have BK98001 := n1_; have GW98001 := n2_; have GE98001 := n3_; clear n0_ n1_ n2_ n3_; clear hb hbox hg))
            have n0_ := Aside0.mk (blk_drew BK98001.out)
            have n1_ := Aside0.mk (below_drew1 HB.out)
            clear BK98001
            clear HB
            have BK98001 := n0_
            have HB := n1_
            clear n0_ n1_
            refine start_ (n := 5) (S := fun w' => w'.cell? ⟨gb98001, 0, none⟩ = some (.slice A0_0 l0_0.length c0_0) ∧ w'.cell? ⟨gb98001, 1, none⟩ = some (.slice A0_1 l0_1.length c0_1) ∧ w'.cell? ⟨gb98001, 2, none⟩ = some (.int .i64 a0_2)) (ds := []) #[false, false, false, false, false] (by kernel_rfl) rfl rfl ⟨(blk_cell BK98001.out 0).trans rfl, (blk_cell BK98001.out 1).trans rfl, (blk_cell BK98001.out 2).trans rfl⟩ (fun hHeld => ?_)
            generalize w31.drew = w32 at BK98001 HB hHeld ⊢
            refine pure_ (i := 1) (N := some 10) (v := ?_) (a' := ?_) #[false, true, false, false, false] rfl rfl (by kernel_rfl) (fun _ _ _ h => h) (Or.inl ⟨by rfl, ?_⟩) ?_ ?_
            rotate_left
            · intro w'
              go_simp
              with_reducible rfl
            rotate_left
            · simp only [Act.put, List.setIfInBounds_toArray, List.set_cons_zero, List.set_cons_succ, i64_w, i32_w]
              rfl
            refine take_ (i := 0) (N := some 9) (v := ?_) (a' := ?_) #[true, true, false, false, false] rfl rfl (by kernel_rfl) (fun _ _ _ h => h) (Or.inl ⟨by rfl, ?_⟩) hHeld ?_ ?_
            rotate_left
            · rintro w' ⟨s0, s1, s2⟩
              go_simp
              with_reducible rfl
            rotate_left
            · simp only [Act.put, List.setIfInBounds_toArray, List.set_cons_zero, List.set_cons_succ, i64_w, i32_w]
              rfl
            refine one_ (i := 2) (N := some 11) #[true, true, true, false, false] rfl rfl (by kernel_rfl) (by decide) (fun K hK => ?_)
            refine goes_ Try.func150 (by kernel_rfl) rfl #[.int .i64 a2] (by rfl) rfl rfl (by (try simp only [List.map_toArray, List.map_cons, List.map_nil]); first | done | rfl | (simp only [List.length_drop, List.length_take]; rfl)) ?_
            with_reducible refine (impl_propOf.calls a2 t98002 _ A4.out).mono ?_
            rintro e w33 ⟨rfl, hb⟩
            refine ⟨_, rfl, ?_⟩
            have n0_ := Aside0.mk (blk_below (g := gb98001) (o := .cells #[.slice A0_0 l0_0.length c0_0, .slice A0_1 l0_1.length c0_1, .int .i64 a0_2] 66 (0, 0)) (by (with_reducible repeat (first | refine blk_drewN ?_ _ | refine blk_drew ?_ | refine blk_alloc ?_ _)); exact BK98001.out) hb)
            have n1_ := Aside0.mk (below_step (by repeat (first | (with_reducible first | exact HB.out | apply below_alloc | apply pw_below_drewN | apply below_drew1 | refine below_set ?_ GE98001.out) | exact HB.out)) hb)
            clear BK98001
            clear HB
            have BK98001 := n0_
            have HB := n1_
            clear n0_ n1_
            (try clear hb)
            (try clear hb2)
            (try clear hk)
            (try clear hi)
            refine hK.out _ _ ⟨(blk_cell BK98001.out 0).trans rfl, (blk_cell BK98001.out 1).trans rfl, (blk_cell BK98001.out 2).trans rfl⟩ (fun hHeld => ?_)
            clear hK K
            refine norm_ (a' := ?_) ?_ ?_
            rotate_left
            · show Act.put _ (some 11) _ = _
              simp only [Act.put, List.setIfInBounds_toArray, List.set_cons_zero, List.set_cons_succ, i64_w, i32_w]
              rfl
            refine one_ (i := 3) (N := some 12) #[true, true, true, true, false] rfl rfl (by kernel_rfl) (by decide) (fun K hK => ?_)
            refine goes_ Try.func102 (by kernel_rfl) rfl #[.agg #[.slice A0_0 l0_0.length c0_0, .slice A0_1 l0_1.length c0_1, .int .i64 a0_2], .int .i64 t98002] (by rfl) rfl rfl (by (try simp only [List.map_toArray, List.map_cons, List.map_nil]); first | done | rfl | (simp only [List.length_drop, List.length_take]; rfl)) ?_
            with_reducible refine (impl_watcher.calls _ _ l0_0 _ _ l0_1 a0_2 t98002 t98003 _ ?side1 ?side2 ?side3 ?side4 A5.out).mono ?_
            (case side1 => repeat (first | exact (Kd.C_below HR0_0.out HB.out) | (with_reducible refine Kd.C_alloc ?_ _) | (with_reducible refine Kd.C_drewN ?_ _) | (with_reducible refine Kd.C_drew ?_)))
            (case side2 => exact HC0_0.out)
            (case side3 => repeat (first | exact (Kd.C_below HR0_1.out HB.out) | (with_reducible refine Kd.C_alloc ?_ _) | (with_reducible refine Kd.C_drewN ?_ _) | (with_reducible refine Kd.C_drew ?_)))
            (case side4 => exact HC0_1.out)
            rintro e w34 ⟨rfl, hb⟩
            refine ⟨_, rfl, ?_⟩
            have n0_ := Aside0.mk (blk_below (g := gb98001) (o := .cells #[.slice A0_0 l0_0.length c0_0, .slice A0_1 l0_1.length c0_1, .int .i64 a0_2] 66 (0, 0)) (by (with_reducible repeat (first | refine blk_drewN ?_ _ | refine blk_drew ?_ | refine blk_alloc ?_ _)); exact BK98001.out) hb)
            have n1_ := Aside0.mk (below_step (by repeat (first | (with_reducible first | exact HB.out | apply below_alloc | apply pw_below_drewN | apply below_drew1 | refine below_set ?_ GE98001.out) | exact HB.out)) hb)
            clear BK98001
            clear HB
            have BK98001 := n0_
            have HB := n1_
            clear n0_ n1_
            (try clear hb)
            (try clear hb2)
            (try clear hk)
            (try clear hi)
            refine hK.out _ _ ⟨(blk_cell BK98001.out 0).trans rfl, (blk_cell BK98001.out 1).trans rfl, (blk_cell BK98001.out 2).trans rfl⟩ (fun hHeld => ?_)
            clear hK K
            refine norm_ (a' := ?_) ?_ ?_
            rotate_left
            · show Act.put _ (some 12) _ = _
              simp only [Act.put, List.setIfInBounds_toArray, List.set_cons_zero, List.set_cons_succ, i64_w, i32_w]
              rfl
            refine pure_ (i := 4) (N := some 7) (v := ?_) (a' := ?_) #[true, true, true, true, true] rfl rfl (by kernel_rfl) (fun _ _ _ h => h) (Or.inl ⟨by rfl, ?_⟩) ?_ ?_
            rotate_left
            · intro w'
              go_simp
              with_reducible rfl
            rotate_left
            · simp only [Act.put, List.setIfInBounds_toArray, List.set_cons_zero, List.set_cons_succ, i64_w, i32_w]
              rfl
            refine done_ (by kernel_rfl) ?_
            have hcz35_0 : w34.cell? ⟨gb98001, 0, none⟩ = some (.slice A0_0 l0_0.length c0_0) := (blk_cell BK98001.out 0).trans rfl
            have hcz35_1 : w34.cell? ⟨gb98001, 1, none⟩ = some (.slice A0_1 l0_1.length c0_1) := (blk_cell BK98001.out 1).trans rfl
            have hcz35_2 : w34.cell? ⟨gb98001, 2, none⟩ = some (.int .i64 a0_2) := (blk_cell BK98001.out 2).trans rfl
            have hfz35_0 := blk_frozen BK98001.out 0
            have hfz35_1 := blk_frozen BK98001.out 1
            have hfz35_2 := blk_frozen BK98001.out 2
            have p98004 : 0 ≤ (t98003 : Int) := of_decide_eq_true (by first | (with_reducible assumption) | assumption)
            have q98004 : t98003 < (l0_0.length : Int) := of_decide_eq_true (by first | (with_reducible assumption) | assumption)
            obtain ⟨ad98004, A98004_1, c98004_1, e98004, hx98004_0, hx98004_1, hx98004_2, hl98004_1, hi98004_1⟩ := at_T120 HR0_0.out t98003 p98004 q98004
            cases e98004
            replace hx98004_0 := (HB.out.cell (World.block_lt_of_cell? w _ hx98004_0)).trans hx98004_0
            replace hx98004_1 := (HB.out.cell (World.block_lt_of_cell? w _ hx98004_1)).trans hx98004_1
            replace hx98004_2 := (HB.out.cell (World.block_lt_of_cell? w _ hx98004_2)).trans hx98004_2
            have HR98004_1 := Aside0.mk hi98004_1
            have HC98004_1 := Aside0.mk hl98004_1
            clear hi98004_1 hl98004_1
            replace p98004 := eq_true p98004
            replace q98004 := eq_true q98004
            try go_wp2_with (first | ((with_reducible refine gate_callee (f := 151) rfl ?_); refine goesL_ (some 23) rfl rfl Try.func151 (by kernel_rfl) rfl #[.slice A98004_1 ((rd_T120 l0_0 t98003).f1).length c98004_1, .int .i64 a2] rfl (by (try simp only [List.map_toArray, List.map_cons, List.map_nil]); first | done | rfl | (simp only [List.length_drop, List.length_take]; rfl)) ?_; (with_reducible refine (slices_Contains_int_int.calls _ _ ((rd_T120 l0_0 t98003).f1) a2 false _ ?side1 ?side2 A13.out).mono ?_); (case side1 => repeat (first | exact (Kd.C_below HR98004_1.out HB.out) | (with_reducible refine Kd.C_alloc ?_ _) | (with_reducible refine Kd.C_drewN ?_ _) | (with_reducible refine Kd.C_drew ?_))); (case side2 => exact HC98004_1.out); rintro e w36 ⟨rfl, hb⟩; refine ⟨_, rfl, ?_⟩; have n0_ := Aside0.mk (blk_below (g := gb98001) (o := .cells #[.slice (some ad98004) l0_0.length c0_0, .slice A0_1 l0_1.length c0_1, .int .i64 a0_2] 66 (0, 0)) (by (with_reducible repeat (first | refine blk_drewN ?_ _ | refine blk_drew ?_ | refine blk_alloc ?_ _)); exact BK98001.out) hb); have n1_ := Aside0.mk (below_step (by repeat (first | (with_reducible first | exact HB.out | apply below_alloc | apply pw_below_drewN | apply below_drew1 | refine below_set ?_ GE98001.out) | exact HB.out)) hb); clear BK98001; clear HB; have BK98001 := n0_; have HB := n1_; clear n0_ n1_; (try clear hb); (try clear hb2); (try clear hk); (try clear hi)) | (go_at_call 151; (with_reducible refine (slices_Contains_int_int.calls _ _ ((rd_T120 l0_0 t98003).f1) (wrap64 (-a2)) false _ ?side1 ?side2 A21.out).mono ?_); (case side1 => repeat (first | exact (Kd.C_below HR98004_1.out HB.out) | (with_reducible refine Kd.C_alloc ?_ _) | (with_reducible refine Kd.C_drewN ?_ _) | (with_reducible refine Kd.C_drew ?_))); (case side2 => exact HC98004_1.out); rintro e w37 ⟨rfl, hb⟩; have n0_ := Aside0.mk (blk_below (g := gb98001) (o := .cells #[.slice (some ad98004) l0_0.length c0_0, .slice A0_1 l0_1.length c0_1, .int .i64 a0_2] 66 (0, 0)) (by (with_reducible repeat (first | refine blk_drewN ?_ _ | refine blk_drew ?_ | refine blk_alloc ?_ _)); exact BK98001.out) hb); have n1_ := Aside0.mk (below_step (by repeat (first | (with_reducible first | exact HB.out | apply below_alloc | apply pw_below_drewN | apply below_drew1 | refine below_set ?_ GE98001.out) | exact HB.out)) hb); clear BK98001; clear HB; have BK98001 := n0_; have HB := n1_; clear n0_ n1_; (try clear hb); (try clear hb2); (try clear hk); (try clear hi)) | (go_at_call 152; (with_reducible refine (impl_ImpliesLabel.calls k _ _ l1 _ _ ((rd_T120 l0_0 t98003).f1) t98007 _ ?side1 ?side2 ?side3 ?side4 A30.out).mono ?_); (case side1 => repeat (first | exact (Kd.C_below HR1.out HB.out) | (with_reducible refine Kd.C_alloc ?_ _) | (with_reducible refine Kd.C_drewN ?_ _) | (with_reducible refine Kd.C_drew ?_))); (case side2 => exact HC1.out); (case side3 => repeat (first | exact (Kd.C_below HR98004_1.out HB.out) | (with_reducible refine Kd.C_alloc ?_ _) | (with_reducible refine Kd.C_drewN ?_ _) | (with_reducible refine Kd.C_drew ?_))); (case side4 => exact HC98004_1.out); rintro e w38 ⟨rfl, hb⟩; have n0_ := Aside0.mk (blk_below (g := gb98001) (o := .cells #[.slice (some ad98004) l0_0.length c0_0, .slice A0_1 l0_1.length c0_1, .int .i64 a0_2] 66 (0, 0)) (by (with_reducible repeat (first | refine blk_drewN ?_ _ | refine blk_drew ?_ | refine blk_alloc ?_ _)); exact BK98001.out) hb); have n1_ := Aside0.mk (below_step (by repeat (first | (with_reducible first | exact HB.out | apply below_alloc | apply pw_below_drewN | apply below_drew1 | refine below_set ?_ GE98001.out) | exact HB.out)) hb); clear BK98001; clear HB; have BK98001 := n0_; have HB := n1_; clear n0_ n1_; (try clear hb); (try clear hb2); (try clear hk); (try clear hi)))
            go_ret
            exact ⟨by first | rfl | (simp [errW_none, errW_some] <;> rfl) | (simp [*, errW_none, errW_some] <;> rfl), by repeat (first | (with_reducible first | exact HB.out | apply below_alloc | apply pw_below_drewN | apply below_drew1 | refine below_set ?_ GE98001.out) | exact HB.out)⟩
      · rw [if_neg c12] at H
        exact absurd H (by simp)
    · rw [if_neg c11] at H
      exact absurd H (by simp)

end Go.Proofs.Ytpoffpdaadhkgaa.Pr

namespace Go.Proofs.Ytpoffpdaadhkgaa.Pr
open Go.RowKit Go.Proofs.YtpoffpdaadhkgaaW.PrintWords Go.Proofs.Ytpoffpdaadhkgaa.Ni
def watchedC (ns : List PNode) (lb : List Int) (x w : Int) : Bool :=
  decide (0 ≤ w) && !((rd_T120 ns w).f1.any fun y => decide (x = y)) && !((rd_T120 ns w).f1.any fun y => decide (-x = y)) && impB lb (rd_T120 ns w).f1
def watchedB (ns : List PNode) (lb : List Int) (x : Int) : Bool := watchedC ns lb x (pwatchI ns (prp x))
theorem isWatched_f (ns : List PNode) (ts : List PTie) (z : Int) (lb : List Int) (x : Int) (hb : ∀ n ∈ ns, n.f1.length ≤ 9223372036854775807) (hl : lb.length ≤ 9223372036854775807) (hx : litOk x = true) (k : Nat) (hk : 2 ^ 64 ≤ k) :
    impl_isWatched.f k ns ts z lb x = some (watchedB ns lb x) := by
  have hx3 := (litOk_iff x).1 hx
  have hbd := idxOf_bd (fun n : PNode => decide (0 < prp x) && decide (n.f2 = prp x)) ns
  unfold impl_isWatched.f
  rw [propOf_f hx, Option.bind_some]
  unfold impl_watcher.f watchedB watchedC
  rw [Option.bind_some]
  have hbd' : -1 ≤ pwatchI ns (prp x) ∧ pwatchI ns (prp x) < ns.length := hbd
  generalize pwatchI ns (prp x) = w at hbd' ⊢
  by_cases h : w < 0
  · rw [if_pos h, decide_eq_false (show ¬ 0 ≤ w by omega)]; rfl
  · rw [if_neg h, if_pos (by omega), if_pos (by omega), decide_eq_true (show 0 ≤ w by omega)]
    have hm : (rd_T120 ns w).f1.length ≤ 9223372036854775807 := by
      obtain ⟨n, rfl⟩ := Int.eq_ofNat_of_zero_le (show 0 ≤ w by omega)
      rw [show rd_T120 ns (n : Int) = ns.getD n z120 from rdN_nat ns n]
      exact hb _ (getD_mem (by omega) _)
    unfold slices_Contains_int_int.f
    rw [Option.bind_some, wrap_id (i := -x) (by omega) (by omega), impl_ImpliesLabel_f lb _ hl hm k hk]
    simp only [Option.bind_some, Bool.true_and]
    cases (rd_T120 ns w).f1.any fun y => decide (x = y)
    · cases (rd_T120 ns w).f1.any fun y => decide (-x = y)
      · simp
      · rfl
    · rfl
end Go.Proofs.Ytpoffpdaadhkgaa.Pr

namespace Go.Proofs.Ytpoffpdaadhkgaa.Pr
open Go.RowKit Go.Proofs.YtpoffpdaadhkgaaW.PrintWords Go.Proofs.YtpoffpdaadhkgaaW.PrintLast Go.Proofs.YtpoffpdaadhkgaaW.PrintMore
attribute [local go_sem] max2_int min2_int max_two min_two max_three min_three max_four min_four
set_option linter.unusedVariables false
set_option linter.unusedSimpArgs false

/-! ### impl_isSpan: function 146 -/
def impl_isSpan.f (a0 : Int) : Option (Bool) := if a0 ≥ (-20) then (some (decide (a0 ≤ 20))) else (some false)
set_option maxHeartbeats 8000000 in
set_option maxRecDepth 100000 in
theorem impl_isSpan.calls (a0 : Int) (r : Bool) (w : World) (h : impl_isSpan.f a0 = some r) :
    Calls Try.prog 146 #[.int .i64 a0] w fun e w' => e = .returned (.bool r) ∧ Drawn0 w w' := by
  have H : (if a0 ≥ (-20) then (some (decide (a0 ≤ 20))) else (some false)) = some r := h
  clear h
  by_cases c2 : a0 ≥ (-20)
  · rw [if_pos c2] at H
    have c2b0 : decide ((-20) ≤ a0) = true := decide_eq_true c2
    clear c2
    obtain rfl := Option.some.inj H
    go_enter Try.func146, Try.ntmps146
    go_wp2
    go_ret
    exact ⟨by first | rfl | (simp; done) | (simp [*]; done), by repeat (first | exact Drawn0.refl _ | apply Drawn0.step)⟩
  · rw [if_neg c2] at H
    have c2b0 : decide ((-20) ≤ a0) = false := decide_eq_false c2
    clear c2
    obtain rfl := Option.some.inj H
    go_enter Try.func146, Try.ntmps146
    go_wp2
    go_ret
    exact ⟨by first | rfl | (simp; done) | (simp [*]; done), by repeat (first | exact Drawn0.refl _ | apply Drawn0.step)⟩

end Go.Proofs.Ytpoffpdaadhkgaa.Pr

namespace Go.Proofs.Ytpoffpdaadhkgaa.Pr
open Go.RowKit Go.Proofs.YtpoffpdaadhkgaaW.PrintWords Go.Proofs.YtpoffpdaadhkgaaW.PrintLast Go.Proofs.YtpoffpdaadhkgaaW.PrintMore
attribute [local go_sem] max2_int min2_int max_two min_two max_three min_three max_four min_four
set_option linter.unusedVariables false
set_option linter.unusedSimpArgs false

/-! ### impl_Tie_157: function 157 (by hand) -/
-- IMPORT Derived.Deep.LoopGhost
-- IMPORT Derived.Shelf.Abstract
-- IMPORT Derived.Test.YtpoffpdaadhkgaaQNice
open Go.Proofs.Ytpoffpdaadhkgaa.Ni
set_option maxHeartbeats 4000000 in
theorem impl_Tie_157.any (p : S126 → Bool) (g : Nat) (lb : Array Value) (eg : ∀ args w, (callFunc g args).run Try.prog w = .ok (.enter g args) w) (A0 : Option Addr) (c0 : Nat) (l0 : List S126) (w : World) (hr0 : Kd.C k126 w A0 l0.length l0)
    (hp : ∀ (W : World) (x : S126), x ∈ l0 → Below w.heap.size w W → Calls Try.prog g (#[.agg #[.int .i64 x.f0, .int .i64 x.f1, .int .i64 x.f2, .int .i64 x.f3, .bool x.f4]] ++ lb) W fun e w' => e = .returned (.bool (p x)) ∧ Below W.heap.size W w') :
    Calls Try.prog 157 #[.slice A0 l0.length c0, .func (.func g) #[] lb] w fun e w' => e = .returned (.int .i64 (idxOf p l0)) ∧ Below w.heap.size w w' := by
  have HR0 := Aside0.mk hr0
  have HP := Aside0.mk hp
  clear hr0 hp
  have HL : l0.length ≤ 9223372036854775807 := HR0.out.2.1
  go_enter Try.func157, Try.ntmps157
  go_wp2
  go_loopg [5, 8] l0.length (fun gg _ s8 wr => ∃ kk : Nat, Aside0 (kk ≤ l0.length) ∧ Aside0 (l0.length - kk ≤ gg) ∧ s8 = .int .i64 kk ∧ Aside0 (Below w.heap.size w wr) ∧ Aside0 (∀ j y, j < kk → l0[j]? = some y → p y = false))
  case atStart => exact ⟨0, ⟨Nat.zero_le _⟩, ⟨by omega⟩, rfl, ⟨Below.refl _ _⟩, ⟨fun j y hj => absurd hj (Nat.not_lt_zero _)⟩⟩
  case round =>
    obtain ⟨kk, HK, HG, rfl, HB, HN⟩ := hrel
    by_cases hlt : kk < l0.length
    · have hltz : (kk : Int) < (l0.length : Int) := by omega
      obtain ⟨ad, e1, hx0, hx1, hx2, hx3, hx4⟩ := at_T126 HR0.out (kk : Int) (by omega) hltz
      cases e1
      replace hx0 := (HB.out.cell (World.block_lt_of_cell? w _ hx0)).trans hx0
      rw [Int.toNat_natCast] at hx0
      replace hx1 := (HB.out.cell (World.block_lt_of_cell? w _ hx1)).trans hx1
      rw [Int.toNat_natCast] at hx1
      replace hx2 := (HB.out.cell (World.block_lt_of_cell? w _ hx2)).trans hx2
      rw [Int.toNat_natCast] at hx2
      replace hx3 := (HB.out.cell (World.block_lt_of_cell? w _ hx3)).trans hx3
      rw [Int.toNat_natCast] at hx3
      replace hx4 := (HB.out.cell (World.block_lt_of_cell? w _ hx4)).trans hx4
      rw [Int.toNat_natCast] at hx4
      have hxe : l0[kk]? = some (rd_T126 l0 (kk : Int)) := by
        unfold rd_T126
        rw [Int.toNat_natCast, List.getD_eq_getElem?_getD, List.getElem?_eq_getElem hlt]; rfl

      generalize rd_T126 l0 (kk : Int) = y at hx0 hx1 hx2 hx3 hx4 hxe
      have HX := Aside0.mk hxe
      clear hxe
      have hcall := HP.out wr y (List.mem_of_getElem? HX.out) HB.out

      cases hq : p y with
      | true =>
        have HQ := Aside0.mk hq
        rw [hq] at hcall
        clear hq
        go_wp2_with (go_at_fn g; refine hcall.mono ?_; rintro e w' ⟨rfl, hb⟩)
        go_ret
        exact ⟨by rw [idxOf_hit p l0 kk y HX.out HQ.out HN.out]; rfl, HB.out.trans (hb.mono HB.out.size)⟩
      | false =>
        have HQ := Aside0.mk hq
        rw [hq] at hcall
        clear hq
        go_wp2_with (go_at_fn g; refine hcall.mono ?_; rintro e w' ⟨rfl, hb⟩)
        go_roundg (l0.length - (kk + 1))
        case measure => have := HG.out; omega
        case rel =>
          refine ⟨kk + 1, ⟨by omega⟩, ⟨by omega⟩, by go_num, ⟨HB.out.trans (hb.mono HB.out.size)⟩, ⟨fun j y' hj hy => ?_⟩⟩
          by_cases e : j = kk
          · subst e
            rw [HX.out] at hy
            cases hy
            exact HQ.out
          · exact HN.out j y' (by omega) hy
    · have hltz : ¬ (kk : Int) < (l0.length : Int) := by omega
      have : kk = l0.length := by have := HK.out; omega
      subst this
      go_wp2
      go_ret
      exact ⟨by rw [idxOf_miss p l0 HN.out]; rfl, HB.out⟩

end Go.Proofs.Ytpoffpdaadhkgaa.Pr

namespace Go.Proofs.Ytpoffpdaadhkgaa.Pr
open Go.RowKit Go.Proofs.YtpoffpdaadhkgaaW.PrintWords Go.Proofs.YtpoffpdaadhkgaaW.PrintLast Go.Proofs.YtpoffpdaadhkgaaW.PrintMore
attribute [local go_sem] max2_int min2_int max_two min_two max_three min_three max_four min_four
set_option linter.unusedVariables false
set_option linter.unusedSimpArgs false

/-! ### impl_Tie_148: function 148 (by hand) -/
-- IMPORT Derived.Test.YtpoffpdaadhkgaaQNice
open Go.Proofs.Ytpoffpdaadhkgaa.Ni
set_option maxHeartbeats 4000000 in
theorem impl_Tie_148.any (p : S126 → Bool) (g : Nat) (lb : Array Value) (eg : ∀ args w, (callFunc g args).run Try.prog w = .ok (.enter g args) w) (A0 : Option Addr) (c0 : Nat) (l0 : List S126) (w : World) (hr0 : Kd.C k126 w A0 l0.length l0)
    (hp : ∀ (W : World) (x : S126), x ∈ l0 → Below w.heap.size w W → Calls Try.prog g (#[.agg #[.int .i64 x.f0, .int .i64 x.f1, .int .i64 x.f2, .int .i64 x.f3, .bool x.f4]] ++ lb) W fun e w' => e = .returned (.bool (p x)) ∧ Below W.heap.size W w') :
    Calls Try.prog 148 #[.slice A0 l0.length c0, .func (.func g) #[] lb] w fun e w' => e = .returned (.bool (l0.any p)) ∧ Below w.heap.size w w' := by
  have HI := Aside0.mk (impl_Tie_157.any p g lb eg A0 c0 l0 w hr0 hp)
  clear hr0 hp
  have HE := Aside0.mk (idxOf_any p l0)
  go_enter Try.func148, Try.ntmps148
  go_wp2_with (go_at_call 157; refine HI.out.mono ?_; rintro e w' ⟨rfl, hb⟩)
  go_ret
  exact ⟨by rw [← HE.out]; rfl, hb⟩

end Go.Proofs.Ytpoffpdaadhkgaa.Pr

namespace Go.Proofs.Ytpoffpdaadhkgaa.Pr
open Go.RowKit Go.Proofs.YtpoffpdaadhkgaaW.PrintWords Go.Proofs.YtpoffpdaadhkgaaW.PrintLast Go.Proofs.YtpoffpdaadhkgaaW.PrintMore
attribute [local go_sem] max2_int min2_int max_two min_two max_three min_three max_four min_four
set_option linter.unusedVariables false
set_option linter.unusedSimpArgs false

/-! ### impl_isNode: function 71 -/
def impl_isNode.f (a0 : Int) (a1 : Int) : Option (Bool) := if a1 ≥ 0 then (some (decide (a1 < a0))) else (some false)
set_option maxHeartbeats 8000000 in
set_option maxRecDepth 100000 in
theorem impl_isNode.calls (a0 : Int) (a1 : Int) (r : Bool) (w : World) (h : impl_isNode.f a0 a1 = some r) :
    Calls Try.prog 71 #[.int .i64 a0, .int .i64 a1] w fun e w' => e = .returned (.bool r) ∧ Drawn0 w w' := by
  have H : (if a1 ≥ 0 then (some (decide (a1 < a0))) else (some false)) = some r := h
  clear h
  by_cases c3 : a1 ≥ 0
  · rw [if_pos c3] at H
    have c3b0 : decide (0 ≤ a1) = true := decide_eq_true c3
    clear c3
    obtain rfl := Option.some.inj H
    go_enter Try.func71, Try.ntmps71
    go_wp2
    go_ret
    exact ⟨by first | rfl | (simp; done) | (simp [*]; done), by repeat (first | exact Drawn0.refl _ | apply Drawn0.step)⟩
  · rw [if_neg c3] at H
    have c3b0 : decide (0 ≤ a1) = false := decide_eq_false c3
    clear c3
    obtain rfl := Option.some.inj H
    go_enter Try.func71, Try.ntmps71
    go_wp2
    go_ret
    exact ⟨by first | rfl | (simp; done) | (simp [*]; done), by repeat (first | exact Drawn0.refl _ | apply Drawn0.step)⟩

end Go.Proofs.Ytpoffpdaadhkgaa.Pr

