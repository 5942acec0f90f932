/- The texts of one claim, put together by a program of this session. -/
import Derived.Deep.RegionHeld3
import Derived.Deep.LoopGhost
import Derived.Shelf.Abstract
import Derived.Test.YtpoffpdaadhkgaaBShow1
import Derived.Test.YtpoffpdaadhkgaaBShow2
import Derived.Test.YtpoffpdaadhkgaaBShow3
import Derived.Test.YtpoffpdaadhkgaaBShow4
import Derived.Test.YtpoffpdaadhkgaaBShow5
namespace Go.Proofs.Ytpoffpdaadhkgaa.Pr
open Go.RowKit Go.Proofs.YtpoffpdaadhkgaaW.PrintWords Go.Proofs.YtpoffpdaadhkgaaW.PrintLast Go.Proofs.YtpoffpdaadhkgaaW.PrintMore
attribute [local go_sem] max2_int min2_int max_two min_two max_three min_three max_four min_four
set_option linter.unusedVariables false
set_option linter.unusedSimpArgs false

/-! ### spec_l08Same: function 142 -/
def spec_l08Same.l0 : Nat → List Int → List Int → Int → Int → Option (Bool)
  | 0, _, _, _, _ => none
  | k + 1, x1, x12, x13, x14 => if x14 < x13 then (if 0 ≤ x14 then (if x14 < (x12.length : Int) then (if x14 < (x1.length : Int) then (if (rd x12 x14) = (rd x1 x14) then (spec_l08Same.l0 k x1 x12 x13 (wrap64 (x14 + 1))) else (some false)) else (none)) else (none)) else (none)) else (some true)
def spec_l08Same.f (k : Nat) (l0 : List Int) (l1 : List Int) : Option (Bool) := if (l0.length : Int) = (l1.length : Int) then (spec_l08Same.l0 k l1 l0 (l0.length : Int) 0) else (some false)
set_option maxHeartbeats 8000000 in
set_option maxRecDepth 100000 in
theorem spec_l08Same.calls (k : Nat) (A0 : Option Addr) (c0 : Nat) (l0 : List Int) (A1 : Option Addr) (c1 : Nat) (l1 : List Int) (r : Bool) (w : World) (hr0 : Kd.C (Kd.int .i64) w A0 l0.length l0) (hc0 : l0.length ≤ c0) (hr1 : Kd.C (Kd.int .i64) w A1 l1.length l1) (hc1 : l1.length ≤ c1) (h : spec_l08Same.f k l0 l1 = some r) :
    Calls Try.prog 142 #[.slice A0 l0.length c0, .slice A1 l1.length c1] w fun e w' => e = .returned (.bool r) ∧ Drawn0 w w' := by
  have HR0 := Aside0.mk hr0
  have HC0 := Aside0.mk hc0
  clear hr0 hc0
  have HR1 := Aside0.mk hr1
  have HC1 := Aside0.mk hc1
  clear hr1 hc1
  have H : (if (l0.length : Int) = (l1.length : Int) then (spec_l08Same.l0 k l1 l0 (l0.length : Int) 0) else (some false)) = some r := h
  clear h
  by_cases c3 : (l0.length : Int) = (l1.length : Int)
  · rw [if_pos c3] at H
    have c3b0 : ((l0.length : Int) == (l1.length : Int)) = true := beq_iff_eq.mpr c3
    have c3b1 : ((l0.length : Int) != (l1.length : Int)) = false := bne_eq_false_iff_eq.mpr c3
    have c3b2 : (l0.length == l1.length) = true := by first | simpa using c3 | (simp at c3 ⊢; omega)
    clear c3
    have H' := Aside0.mk H
    clear H
    go_enter Try.func142, Try.ntmps142
    go_wp2
    go_loopg [14] k (fun kq v14 w' => ∃ (x14_1 : Int), v14 = .int .i64 x14_1 ∧ Aside0 (spec_l08Same.l0 kq l1 l0 (l0.length : Int) x14_1 = some r) ∧ Aside0 (kq ≤ k) ∧ Drawn0 w w')
    case atStart => exact ⟨(0), (by first | rfl | (simp; done) | (simp [*]; done)), H', ⟨Nat.le_refl _⟩, by repeat (first | exact Drawn0.refl _ | apply Drawn0.step)⟩
    case round =>
      clear H'
      try clear c1
      try clear p2
      try clear c3
      try clear c3b0
      try clear c3b1
      try clear c3b2
      obtain ⟨x14_1, rfl, HA, HK1, ⟨m1, rfl⟩⟩ := hrel
      cases gk with
      | zero => exact absurd HA.out (by simp [spec_l08Same.l0])
      | succ k1 =>
        have H := HA.out
        clear HA
        simp only [spec_l08Same.l0] at H
        by_cases c4 : x14_1 < (l0.length : Int)
        · rw [if_pos c4] at H
          have c4b0 : decide (x14_1 < (l0.length : Int)) = true := decide_eq_true c4
          clear c4
          by_cases c5 : 0 ≤ x14_1
          · rw [if_pos c5] at H
            have c5b0 : decide (0 ≤ x14_1) = true := decide_eq_true c5
            clear c5
            by_cases c6 : x14_1 < (l0.length : Int)
            · rw [if_pos c6] at H
              have c6b0 : decide (x14_1 < (l0.length : Int)) = true := decide_eq_true c6
              clear c6
              by_cases c7 : x14_1 < (l1.length : Int)
              · rw [if_pos c7] at H
                have c7b0 : decide (x14_1 < (l1.length : Int)) = true := decide_eq_true c7
                clear c7
                by_cases c8 : (rd l0 x14_1) = (rd l1 x14_1)
                · rw [if_pos c8] at H
                  have c8b0 : ((rd l0 x14_1) == (rd l1 x14_1)) = true := beq_iff_eq.mpr c8
                  have c8b1 : ((rd l0 x14_1) != (rd l1 x14_1)) = false := bne_eq_false_iff_eq.mpr c8
                  clear c8
                  have H' := Aside0.mk H
                  clear H
                  have p142001 : 0 ≤ (x14_1 : Int) := of_decide_eq_true (by first | (with_reducible assumption) | assumption)
                  have q142001 : x14_1 < (l0.length : Int) := of_decide_eq_true (by first | (with_reducible assumption) | assumption)
                  obtain ⟨ad142001, e142001, hx142001_0⟩ := Kd.at_int HR0.out x14_1 p142001 q142001
                  cases e142001
                  replace p142001 := eq_true p142001
                  replace q142001 := eq_true q142001
                  have p142002 : 0 ≤ (x14_1 : Int) := of_decide_eq_true (by first | (with_reducible assumption) | assumption)
                  have q142002 : x14_1 < (l1.length : Int) := of_decide_eq_true (by first | (with_reducible assumption) | assumption)
                  obtain ⟨ad142002, e142002, hx142002_0⟩ := Kd.at_int HR1.out x14_1 p142002 q142002
                  cases e142002
                  replace p142002 := eq_true p142002
                  replace q142002 := eq_true q142002
                  go_wp2
                  go_roundg k1
                  case measure => have := HK1.out; omega
                  case rel => exact ⟨(wrap64 (x14_1 + 1)), (by first | rfl | (simp; done) | (simp [*]; done)), H', ⟨by have := HK1.out; omega⟩, by repeat (first | exact Drawn0.refl _ | apply Drawn0.step)⟩
                · rw [if_neg c8] at H
                  have c8b0 : ((rd l0 x14_1) == (rd l1 x14_1)) = false := beq_eq_false_iff_ne.mpr c8
                  have c8b1 : ((rd l0 x14_1) != (rd l1 x14_1)) = true := bne_iff_ne.mpr c8
                  obtain rfl := Option.some.inj H
                  have p142001 : 0 ≤ (x14_1 : Int) := of_decide_eq_true (by first | (with_reducible assumption) | assumption)
                  have q142001 : x14_1 < (l0.length : Int) := of_decide_eq_true (by first | (with_reducible assumption) | assumption)
                  obtain ⟨ad142001, e142001, hx142001_0⟩ := Kd.at_int HR0.out x14_1 p142001 q142001
                  cases e142001
                  replace p142001 := eq_true p142001
                  replace q142001 := eq_true q142001
                  have p142002 : 0 ≤ (x14_1 : Int) := of_decide_eq_true (by first | (with_reducible assumption) | assumption)
                  have q142002 : x14_1 < (l1.length : Int) := of_decide_eq_true (by first | (with_reducible assumption) | assumption)
                  obtain ⟨ad142002, e142002, hx142002_0⟩ := Kd.at_int HR1.out x14_1 p142002 q142002
                  cases e142002
                  replace p142002 := eq_true p142002
                  replace q142002 := eq_true q142002
                  go_wp2
                  go_ret
                  exact ⟨by first | rfl | (simp; done) | (simp [*]; done), by repeat (first | exact Drawn0.refl _ | apply Drawn0.step)⟩
              · rw [if_neg c7] at H
                exact absurd H (by simp)
            · rw [if_neg c6] at H
              exact absurd H (by simp)
          · rw [if_neg c5] at H
            exact absurd H (by simp)
        · rw [if_neg c4] at H
          have c4b0 : decide (x14_1 < (l0.length : Int)) = false := decide_eq_false c4
          clear c4
          obtain rfl := Option.some.inj H
          go_wp2
          go_ret
          exact ⟨by first | rfl | (simp; done) | (simp [*]; done), by repeat (first | exact Drawn0.refl _ | apply Drawn0.step)⟩
  · rw [if_neg c3] at H
    have c3b0 : ((l0.length : Int) == (l1.length : Int)) = false := beq_eq_false_iff_ne.mpr c3
    have c3b1 : ((l0.length : Int) != (l1.length : Int)) = true := bne_iff_ne.mpr c3
    have c3b2 : (l0.length == l1.length) = false := by first | simpa using c3 | (simp at c3 ⊢; omega)
    obtain rfl := Option.some.inj H
    go_enter Try.func142, Try.ntmps142
    go_wp2
    go_ret
    exact ⟨by first | rfl | (simp; done) | (simp [*]; done), by repeat (first | exact Drawn0.refl _ | apply Drawn0.step)⟩

end Go.Proofs.Ytpoffpdaadhkgaa.Pr

namespace Go.Proofs.Ytpoffpdaadhkgaa.Pr
open Go.RowKit Go.Proofs.YtpoffpdaadhkgaaW.PrintWords Go.Proofs.YtpoffpdaadhkgaaW.PrintLast Go.Proofs.YtpoffpdaadhkgaaW.PrintMore
attribute [local go_sem] max2_int min2_int max_two min_two max_three min_three max_four min_four
set_option linter.unusedVariables false
set_option linter.unusedSimpArgs false

/-! ### slices_Equal_int_int: function 147 -/
def slices_Equal_int_int.l0 : Nat → List Int → List Int → Int → Int → Option (Bool)
  | 0, _, _, _, _ => none
  | k + 1, x0, x1, x12, x13 => if x13 < x12 then (if 0 ≤ x13 then (if x13 < (x0.length : Int) then (if x13 < (x1.length : Int) then (if (rd x0 x13) = (rd x1 x13) then (slices_Equal_int_int.l0 k x0 x1 x12 (wrap64 (x13 + 1))) else (some false)) else (none)) else (none)) else (none)) else (some true)
def slices_Equal_int_int.f (k : Nat) (l0 : List Int) (l1 : List Int) : Option (Bool) := if (l0.length : Int) = (l1.length : Int) then (slices_Equal_int_int.l0 k l0 l1 (l0.length : Int) 0) else (some false)
set_option maxHeartbeats 8000000 in
set_option maxRecDepth 100000 in
theorem slices_Equal_int_int.calls (k : Nat) (A0 : Option Addr) (c0 : Nat) (l0 : List Int) (A1 : Option Addr) (c1 : Nat) (l1 : List Int) (r : Bool) (w : World) (hr0 : Kd.C (Kd.int .i64) w A0 l0.length l0) (hc0 : l0.length ≤ c0) (hr1 : Kd.C (Kd.int .i64) w A1 l1.length l1) (hc1 : l1.length ≤ c1) (h : slices_Equal_int_int.f k l0 l1 = some r) :
    Calls Try.prog 147 #[.slice A0 l0.length c0, .slice A1 l1.length c1] w fun e w' => e = .returned (.bool r) ∧ Drawn0 w w' := by
  have HR0 := Aside0.mk hr0
  have HC0 := Aside0.mk hc0
  clear hr0 hc0
  have HR1 := Aside0.mk hr1
  have HC1 := Aside0.mk hc1
  clear hr1 hc1
  have H : (if (l0.length : Int) = (l1.length : Int) then (slices_Equal_int_int.l0 k l0 l1 (l0.length : Int) 0) else (some false)) = some r := h
  clear h
  by_cases c3 : (l0.length : Int) = (l1.length : Int)
  · rw [if_pos c3] at H
    have c3b0 : ((l0.length : Int) == (l1.length : Int)) = true := beq_iff_eq.mpr c3
    have c3b1 : ((l0.length : Int) != (l1.length : Int)) = false := bne_eq_false_iff_eq.mpr c3
    have c3b2 : (l0.length == l1.length) = true := by first | simpa using c3 | (simp at c3 ⊢; omega)
    clear c3
    have H' := Aside0.mk H
    clear H
    go_enter Try.func147, Try.ntmps147
    go_wp2
    repeat (go_quiet (fail); try go_wp2)
    go_loopg [13] k (fun kq v13 w' => ∃ (x13_1 : Int), v13 = .int .i64 x13_1 ∧ Aside0 (slices_Equal_int_int.l0 kq l0 l1 (l0.length : Int) x13_1 = some r) ∧ Aside0 (kq ≤ k) ∧ Drawn0 w w')
    case atStart => exact ⟨(0), (by first | rfl | (simp; done) | (simp [*]; done)), H', ⟨Nat.le_refl _⟩, by repeat (first | exact Drawn0.refl _ | apply Drawn0.step)⟩
    case round =>
      clear H'
      try clear c1
      try clear p2
      try clear c3
      try clear c3b0
      try clear c3b1
      try clear c3b2
      obtain ⟨x13_1, rfl, HA, HK1, ⟨m1, rfl⟩⟩ := hrel
      cases gk with
      | zero => exact absurd HA.out (by simp [slices_Equal_int_int.l0])
      | succ k1 =>
        have H := HA.out
        clear HA
        simp only [slices_Equal_int_int.l0] at H
        by_cases c4 : x13_1 < (l0.length : Int)
        · rw [if_pos c4] at H
          have c4b0 : decide (x13_1 < (l0.length : Int)) = true := decide_eq_true c4
          clear c4
          by_cases c5 : 0 ≤ x13_1
          · rw [if_pos c5] at H
            have c5b0 : decide (0 ≤ x13_1) = true := decide_eq_true c5
            clear c5
            by_cases c6 : x13_1 < (l0.length : Int)
            · rw [if_pos c6] at H
              have c6b0 : decide (x13_1 < (l0.length : Int)) = true := decide_eq_true c6
              clear c6
              by_cases c7 : x13_1 < (l1.length : Int)
              · rw [if_pos c7] at H
                have c7b0 : decide (x13_1 < (l1.length : Int)) = true := decide_eq_true c7
                clear c7
                by_cases c8 : (rd l0 x13_1) = (rd l1 x13_1)
                · rw [if_pos c8] at H
                  have c8b0 : ((rd l0 x13_1) == (rd l1 x13_1)) = true := beq_iff_eq.mpr c8
                  have c8b1 : ((rd l0 x13_1) != (rd l1 x13_1)) = false := bne_eq_false_iff_eq.mpr c8
                  clear c8
                  have H' := Aside0.mk H
                  clear H
                  have p147001 : 0 ≤ (x13_1 : Int) := of_decide_eq_true (by first | (with_reducible assumption) | assumption)
                  have q147001 : x13_1 < (l0.length : Int) := of_decide_eq_true (by first | (with_reducible assumption) | assumption)
                  obtain ⟨ad147001, e147001, hx147001_0⟩ := Kd.at_int HR0.out x13_1 p147001 q147001
                  cases e147001
                  replace p147001 := eq_true p147001
                  replace q147001 := eq_true q147001
                  have p147002 : 0 ≤ (x13_1 : Int) := of_decide_eq_true (by first | (with_reducible assumption) | assumption)
                  have q147002 : x13_1 < (l1.length : Int) := of_decide_eq_true (by first | (with_reducible assumption) | assumption)
                  obtain ⟨ad147002, e147002, hx147002_0⟩ := Kd.at_int HR1.out x13_1 p147002 q147002
                  cases e147002
                  replace p147002 := eq_true p147002
                  replace q147002 := eq_true q147002
                  go_wp2
                  repeat (go_quiet (fail); try go_wp2)
                  go_roundg k1
                  case measure => have := HK1.out; omega
                  case rel => exact ⟨(wrap64 (x13_1 + 1)), (by first | rfl | (simp; done) | (simp [*]; done)), H', ⟨by have := HK1.out; omega⟩, by repeat (first | exact Drawn0.refl _ | apply Drawn0.step)⟩
                · rw [if_neg c8] at H
                  have c8b0 : ((rd l0 x13_1) == (rd l1 x13_1)) = false := beq_eq_false_iff_ne.mpr c8
                  have c8b1 : ((rd l0 x13_1) != (rd l1 x13_1)) = true := bne_iff_ne.mpr c8
                  obtain rfl := Option.some.inj H
                  have p147001 : 0 ≤ (x13_1 : Int) := of_decide_eq_true (by first | (with_reducible assumption) | assumption)
                  have q147001 : x13_1 < (l0.length : Int) := of_decide_eq_true (by first | (with_reducible assumption) | assumption)
                  obtain ⟨ad147001, e147001, hx147001_0⟩ := Kd.at_int HR0.out x13_1 p147001 q147001
                  cases e147001
                  replace p147001 := eq_true p147001
                  replace q147001 := eq_true q147001
                  have p147002 : 0 ≤ (x13_1 : Int) := of_decide_eq_true (by first | (with_reducible assumption) | assumption)
                  have q147002 : x13_1 < (l1.length : Int) := of_decide_eq_true (by first | (with_reducible assumption) | assumption)
                  obtain ⟨ad147002, e147002, hx147002_0⟩ := Kd.at_int HR1.out x13_1 p147002 q147002
                  cases e147002
                  replace p147002 := eq_true p147002
                  replace q147002 := eq_true q147002
                  go_wp2
                  repeat (go_quiet (fail); try go_wp2)
                  go_ret
                  exact ⟨by first | rfl | (simp; done) | (simp [*]; done), by repeat (first | exact Drawn0.refl _ | apply Drawn0.step)⟩
              · rw [if_neg c7] at H
                exact absurd H (by simp)
            · rw [if_neg c6] at H
              exact absurd H (by simp)
          · rw [if_neg c5] at H
            exact absurd H (by simp)
        · rw [if_neg c4] at H
          have c4b0 : decide (x13_1 < (l0.length : Int)) = false := decide_eq_false c4
          clear c4
          obtain rfl := Option.some.inj H
          go_wp2
          repeat (go_quiet (fail); try go_wp2)
          go_ret
          exact ⟨by first | rfl | (simp; done) | (simp [*]; done), by repeat (first | exact Drawn0.refl _ | apply Drawn0.step)⟩
  · rw [if_neg c3] at H
    have c3b0 : ((l0.length : Int) == (l1.length : Int)) = false := beq_eq_false_iff_ne.mpr c3
    have c3b1 : ((l0.length : Int) != (l1.length : Int)) = true := bne_iff_ne.mpr c3
    have c3b2 : (l0.length == l1.length) = false := by first | simpa using c3 | (simp at c3 ⊢; omega)
    obtain rfl := Option.some.inj H
    go_enter Try.func147, Try.ntmps147
    go_wp2
    repeat (go_quiet (fail); try go_wp2)
    go_ret
    exact ⟨by first | rfl | (simp; done) | (simp [*]; done), by repeat (first | exact Drawn0.refl _ | apply Drawn0.step)⟩

end Go.Proofs.Ytpoffpdaadhkgaa.Pr

namespace Go.Proofs.Ytpoffpdaadhkgaa.Pr
open Go.RowKit Go.Proofs.YtpoffpdaadhkgaaW.PrintWords Go.Proofs.Ytpoffpdaadhkgaa.Ni
theorem l08Same_f (l m : List Int) (hl : l.length ≤ 9223372036854775807) (k : Nat) (hk : 2 ^ 64 ≤ k) : spec_l08Same.f k l m = some (decide (l = m)) := by
  unfold spec_l08Same.f
  by_cases e : l.length = m.length
  · rw [if_pos (by omega)]
    have key := loop_up l.length (fun k i => spec_l08Same.l0 k m l l.length (i : Int) = some (decide (l.drop i = m.drop i))) 0
      (fun k _ => by
        simp only [spec_l08Same.l0]
        rw [if_neg (by omega), List.drop_of_length_le (Nat.le_refl _), List.drop_of_length_le (by omega)]
        simp)
      (fun k i _ hi ih => by
        simp only [spec_l08Same.l0]
        rw [if_pos (by omega), if_pos (by omega), if_pos (by omega), if_pos (by omega), rd_nat, rd_nat, wrap_nat hi (by omega), drop_cons hi 0, drop_cons (show i < m.length by omega) 0]
        by_cases h : l.getD i 0 = m.getD i 0
        · rw [if_pos h, ih, h]; simp
        · rw [if_neg h]
          simp only [List.cons.injEq, h, false_and, decide_false]) 0 k (Nat.zero_le _) (by omega)
    simpa using key
  · rw [if_neg (by omega)]
    have : l ≠ m := fun h => e (by rw [h])
    simp [this]
theorem sEqual_f (l m : List Int) (hl : l.length ≤ 9223372036854775807) (k : Nat) (hk : 2 ^ 64 ≤ k) : slices_Equal_int_int.f k l m = some (decide (l = m)) := by
  unfold slices_Equal_int_int.f
  by_cases e : l.length = m.length
  · rw [if_pos (by omega)]
    have key := loop_up l.length (fun k i => slices_Equal_int_int.l0 k l m l.length (i : Int) = some (decide (l.drop i = m.drop i))) 0
      (fun k _ => by
        simp only [slices_Equal_int_int.l0]
        rw [if_neg (by omega), List.drop_of_length_le (Nat.le_refl _), List.drop_of_length_le (by omega)]
        simp)
      (fun k i _ hi ih => by
        simp only [slices_Equal_int_int.l0]
        rw [if_pos (by omega), if_pos (by omega), if_pos (by omega), if_pos (by omega), rd_nat, rd_nat, wrap_nat hi (by omega), drop_cons hi 0, drop_cons (show i < m.length by omega) 0]
        by_cases h : l.getD i 0 = m.getD i 0
        · rw [if_pos h, ih, h]; simp
        · rw [if_neg h]
          simp only [List.cons.injEq, h, false_and, decide_false]) 0 k (Nat.zero_le _) (by omega)
    simpa using key
  · rw [if_neg (by omega)]
    have : l ≠ m := fun h => e (by rw [h])
    simp [this]
end Go.Proofs.Ytpoffpdaadhkgaa.Pr

namespace Go.Proofs.Ytpoffpdaadhkgaa.Pr
open Go.RowKit Go.Proofs.YtpoffpdaadhkgaaW.PrintWords Go.Proofs.YtpoffpdaadhkgaaW.PrintLast Go.Proofs.YtpoffpdaadhkgaaW.PrintMore
attribute [local go_sem] max2_int min2_int max_two min_two max_three min_three max_four min_four
set_option linter.unusedVariables false
set_option linter.unusedSimpArgs false

/-! ### spec_l08Tie: function 92 (by hand) -/
open Go.Proofs.Ytpoffpdaadhkgaa.Ni
-- IMPORT Derived.Test.YtpoffpdaadhkgaaUFree
-- IMPORT Derived.Test.YtpoffpdaadhkgaaUQuiet
-- IMPORT Derived.Test.YtpoffpdaadhkgaaUSameS
-- IMPORT Derived.Deep.RegionHeld3
theorem l08Same_any {A0 : Option Addr} {c0 : Nat} {l0 : List Int} {A1 : Option Addr} {c1 : Nat} {l1 : List Int} (w : World) (hr0 : Kd.C (Kd.int .i64) w A0 l0.length l0) (hc0 : l0.length ≤ c0) (hr1 : Kd.C (Kd.int .i64) w A1 l1.length l1) (hc1 : l1.length ≤ c1) :
    Calls Try.prog 142 #[.slice A0 l0.length c0, .slice A1 l1.length c1] w fun e w' => e = .returned (.bool (decide (l0 = l1))) ∧ ∃ n, w' = w.drewN n :=
  (spec_l08Same.calls (2 ^ 64) A0 c0 l0 A1 c1 l1 _ w hr0 hc0 hr1 hc1 (l08Same_f l0 l1 hr0.2.1 _ (Nat.le_refl _))).mono fun e w' ⟨he, hd⟩ => ⟨he, hd.out⟩
theorem l08Free_any {A0_0 : Option Addr} {c0_0 : Nat} {l0_0 : List S120} {A0_1 : Option Addr} {c0_1 : Nat} {l0_1 : List S126} {a0_2 : Int} (a1 : Int) (w : World) (hr0_0 : Kd.C k120 w A0_0 l0_0.length l0_0) (hc0_0 : l0_0.length ≤ c0_0) (hr0_1 : Kd.C k126 w A0_1 l0_1.length l0_1) (hc0_1 : l0_1.length ≤ c0_1) :
    Calls Try.prog 103 #[.agg #[.slice A0_0 l0_0.length c0_0, .slice A0_1 l0_1.length c0_1, .int .i64 a0_2], .int .i64 a1] w fun e w' => e = .returned (.int .i64 (freeI l0_1 a1)) ∧ Below w.heap.size w w' :=
  spec_l08Free.calls (2 ^ 64) _ _ _ _ _ _ a0_2 a1 _ w hr0_0 hc0_0 hr0_1 hc0_1 (l08Free_f l0_0 l0_1 a0_2 a1 hr0_1.2.1 _ (Nat.le_refl _))

def tieC (tf tt tl th : Int) (tb : Bool) (ns : List PNode) (ts : List PTie) (i : Int) : Bool :=
  (inB tf 0 (ns.length - 1) && inB tt 0 (ns.length - 1) && !(tf == tt) && !(decide (tl < -20)) && !(decide (20 < th)) && !(decide (th < tl))) && (!tb || (decide (1 ≤ tl) && !(tt == 0) && ((rd_T120 ns tt).f2 == 0) && decide ((rd_T120 ns tf).f1 = (rd_T120 ns tt).f1) && (freeI ts tt == i)))
def tieB (ns : List PNode) (ts : List PTie) (i : Int) : Bool := let t := rd_T126 ts i; tieC t.f0 t.f1 t.f2 t.f3 t.f4 ns ts i
set_option maxHeartbeats 4000000 in
set_option maxRecDepth 100000 in
theorem l08Tie_t (A0_0 : Option Addr) (c0_0 : Nat) (l0_0 : List S120) (A0_1 : Option Addr) (c0_1 : Nat) (l0_1 : List S126) (a0_2 : Int) (a1 : Int) (w : World) (hr0_0 : Kd.C k120 w A0_0 l0_0.length l0_0) (hc0_0 : l0_0.length ≤ c0_0) (hr0_1 : Kd.C k126 w A0_1 l0_1.length l0_1) (hc0_1 : l0_1.length ≤ c0_1) (h0 : 0 ≤ a1) (h1 : a1 < (l0_1.length : Int)) :
    Calls Try.prog 92 #[.agg #[.slice A0_0 l0_0.length c0_0, .slice A0_1 l0_1.length c0_1, .int .i64 a0_2], .int .i64 a1] w fun e w' => e = .returned (.bool (tieB l0_0 l0_1 a1)) ∧ Below w.heap.size w w' := by
  have hL : l0_0.length ≤ 9223372036854775807 := hr0_0.2.1
  have HRn := Aside0.mk hr0_0
  have HRt := Aside0.mk hr0_1
  have HCn := Aside0.mk hc0_0
  have HCt := Aside0.mk hc0_1
  obtain ⟨ad, e1, hx0, hx1, hx2, hx3, hx4⟩ := at_T126 hr0_1 a1 h0 h1
  cases e1
  have hlt := World.block_lt_of_cell? w _ hx0
  clear hr0_0 hr0_1 hc0_0 hc0_1
  have hu := Try.underlying66
  have hu2 := Try.underlying126
  have hfin : tieB l0_0 l0_1 a1 = tieC (rd_T126 l0_1 a1).f0 (rd_T126 l0_1 a1).f1 (rd_T126 l0_1 a1).f2 (rd_T126 l0_1 a1).f3 (rd_T126 l0_1 a1).f4 l0_0 l0_1 a1 := rfl
  have p0 := eq_true h0
  have p1 := eq_true h1
  have HF := Aside0.mk hfin
  clear hfin h0 h1
  revert hx0 hx1 hx2 hx3 hx4 HF
  generalize (rd_T126 l0_1 a1).f0 = tf
  generalize (rd_T126 l0_1 a1).f1 = tt
  generalize (rd_T126 l0_1 a1).f2 = tl
  generalize (rd_T126 l0_1 a1).f3 = th
  generalize (rd_T126 l0_1 a1).f4 = tb
  intro hx0 hx1 hx2 hx3 hx4 HF
  have fin : ∀ b : Bool, tieC tf tt tl th tb l0_0 l0_1 a1 = b → Aside0 (tieB l0_0 l0_1 a1 = b) := fun b h => ⟨HF.out.trans h⟩
  clear HF
  cases b1 : inB tf 0 (l0_0.length - 1) with
  | false =>
    have HF := fin false (by simp [tieC, b1])
    clear fin
    go_enter Try.func92, Try.ntmps92
    go_wp2_with (go_at_call 87; refine (l01In_any _ _ _ _).mono ?_; rintro e w' ⟨rfl, nd, rfl⟩)
    go_ret
    exact ⟨by rw [HF.out]; rfl, by repeat (first | exact Below.refl _ _ | apply below_alloc | apply pw_below_drewN | apply below_drew)⟩
  | true =>
  cases b2 : inB tt 0 (l0_0.length - 1) with
  | false =>
    have HF := fin false (by simp [tieC, b2])
    clear fin
    go_enter Try.func92, Try.ntmps92
    go_wp2_with (go_at_call 87; refine (l01In_any _ _ _ _).mono ?_; rintro e w' ⟨rfl, nd, rfl⟩)
    go_ret
    exact ⟨by rw [HF.out]; rfl, by repeat (first | exact Below.refl _ _ | apply below_alloc | apply pw_below_drewN | apply below_drew)⟩
  | true =>
  cases b3 : (tf == tt) with
  | true =>
    have HF := fin false (by simp [tieC, b3])
    clear fin
    go_enter Try.func92, Try.ntmps92
    go_wp2_with (go_at_call 87; refine (l01In_any _ _ _ _).mono ?_; rintro e w' ⟨rfl, nd, rfl⟩)
    go_ret
    exact ⟨by rw [HF.out]; rfl, by repeat (first | exact Below.refl _ _ | apply below_alloc | apply pw_below_drewN | apply below_drew)⟩
  | false =>
  cases b4 : decide (tl < -20) with
  | true =>
    have HF := fin false (by simp [tieC, b4])
    clear fin
    go_enter Try.func92, Try.ntmps92
    go_wp2_with (go_at_call 87; refine (l01In_any _ _ _ _).mono ?_; rintro e w' ⟨rfl, nd, rfl⟩)
    go_ret
    exact ⟨by rw [HF.out]; rfl, by repeat (first | exact Below.refl _ _ | apply below_alloc | apply pw_below_drewN | apply below_drew)⟩
  | false =>
  cases b5 : decide (20 < th) with
  | true =>
    have HF := fin false (by simp [tieC, b5])
    clear fin
    go_enter Try.func92, Try.ntmps92
    go_wp2_with (go_at_call 87; refine (l01In_any _ _ _ _).mono ?_; rintro e w' ⟨rfl, nd, rfl⟩)
    go_ret
    exact ⟨by rw [HF.out]; rfl, by repeat (first | exact Below.refl _ _ | apply below_alloc | apply pw_below_drewN | apply below_drew)⟩
  | false =>
  cases b6 : decide (th < tl) with
  | true =>
    have HF := fin false (by simp [tieC, b6])
    clear fin
    go_enter Try.func92, Try.ntmps92
    go_wp2_with (go_at_call 87; refine (l01In_any _ _ _ _).mono ?_; rintro e w' ⟨rfl, nd, rfl⟩)
    go_ret
    exact ⟨by rw [HF.out]; rfl, by repeat (first | exact Below.refl _ _ | apply below_alloc | apply pw_below_drewN | apply below_drew)⟩
  | false =>
  cases tb with
  | false =>
    have HF := fin true (by simp [tieC, b1, b2, b3, b4, b5, b6])
    clear fin
    go_enter Try.func92, Try.ntmps92
    go_wp2_with (go_at_call 87; refine (l01In_any _ _ _ _).mono ?_; rintro e w' ⟨rfl, nd, rfl⟩)
    go_quiet (fail)
    go_wp2
    go_ret
    exact ⟨by rw [HF.out]; rfl, by repeat (first | exact Below.refl _ _ | apply below_alloc | apply pw_below_drewN | apply below_drew)⟩
  | true =>
  cases b7 : decide (1 ≤ tl) with
  | false =>
    have HF := fin false (by simp [tieC, b7])
    clear fin
    go_enter Try.func92, Try.ntmps92
    go_wp2_with (go_at_call 87; refine (l01In_any _ _ _ _).mono ?_; rintro e w' ⟨rfl, nd, rfl⟩)
    go_quiet (fail)
    go_wp2
    go_ret
    exact ⟨by rw [HF.out]; rfl, by repeat (first | exact Below.refl _ _ | apply below_alloc | apply pw_below_drewN | apply below_drew)⟩
  | true =>
  cases b8 : (tt == 0) with
  | true =>
    have HF := fin false (by simp [tieC, b8])
    have b8' : (tt != 0) = false := by simpa [bne] using b8
    clear fin
    go_enter Try.func92, Try.ntmps92
    go_wp2_with (go_at_call 87; refine (l01In_any _ _ _ _).mono ?_; rintro e w' ⟨rfl, nd, rfl⟩)
    go_quiet (fail)
    go_wp2
    go_ret
    exact ⟨by rw [HF.out]; rfl, by repeat (first | exact Below.refl _ _ | apply below_alloc | apply pw_below_drewN | apply below_drew)⟩
  | false =>
  have b8' : (tt != 0) = true := by simp [bne, b8]
  have ht := b2
  have hf := b1
  simp only [inB, Bool.and_eq_true, decide_eq_true_eq] at ht hf
  have pt0 := eq_true ht.1
  have pt1 : (tt < (l0_0.length : Int)) = True := eq_true (by omega)
  have pf0 := eq_true hf.1
  have pf1 : (tf < (l0_0.length : Int)) = True := eq_true (by omega)
  obtain ⟨ad2, At, ct, e2, hn0, hn1, hn2, ln, gn⟩ := at_T120 HRn.out tt (of_eq_true pt0) (of_eq_true pt1)
  cases e2
  obtain ⟨ad3, Af, cf, e3, hm0, hm1, hm2, lm, gm⟩ := at_T120 HRn.out tf (of_eq_true pf0) (of_eq_true pf1)
  cases e3
  have hlt2 := World.block_lt_of_cell? w _ hn0
  have hlt3 := World.block_lt_of_cell? w _ hm0
  have LN := Aside0.mk ln
  have GN := Aside0.mk gn
  have LM := Aside0.mk lm
  have GM := Aside0.mk gm
  clear ht hf ln gn lm gm
  cases b9 : ((rd_T120 l0_0 tt).f2 == 0) with
  | false =>
    have HF := fin false (by simp [tieC, b9])
    clear fin
    go_enter Try.func92, Try.ntmps92
    go_wp2_with (go_at_call 87; refine (l01In_any _ _ _ _).mono ?_; rintro e w' ⟨rfl, nd, rfl⟩)
    go_quiet (fail)
    go_wp2
    go_ret
    exact ⟨by rw [HF.out]; rfl, by repeat (first | exact Below.refl _ _ | apply below_alloc | apply pw_below_drewN | apply below_drew)⟩
  | true =>
  have GW := Aside0.mk fun (n : Nat) (A : Option Addr) (l : List Int) (h : Kd.C (Kd.int .i64) w A l.length l) => (Kd.C_below h (pw_below_drewN (below_alloc (below_alloc (Below.refl w.heap.size w) (.cells #[.slice (some ad2) l0_0.length c0_0, .slice (some ad) l0_1.length c0_1, .int .i64 a0_2] 66)) (.cells #[.int .i64 tf, .int .i64 tt, .int .i64 tl, .int .i64 th, .bool true] 126)) n))
  cases b10 : decide ((rd_T120 l0_0 tf).f1 = (rd_T120 l0_0 tt).f1) with
  | false =>
    have HF := fin false (by simp only [tieC, b10, Bool.and_false, Bool.false_and, Bool.not_true, Bool.or_self])
    clear fin
    go_enter Try.func92, Try.ntmps92
    go_wp2_with (go_at_call 87; refine (l01In_any _ _ _ _).mono ?_; rintro e w' ⟨rfl, nd, rfl⟩)
    go_quiet ((go_at_call 142; exact quietX (l08Same_any _ (GW.out _ _ _ GM.out) LM.out (GW.out _ _ _ GN.out) LN.out)))
    go_wp2
    go_ret
    exact ⟨by rw [HF.out]; rfl, by repeat (first | exact Below.refl _ _ | apply below_alloc | apply pw_below_drewN | apply below_drew)⟩
  | true =>
  have HF := fin (freeI l0_1 tt == a1) (by simp only [tieC, b1, b2, b3, b4, b5, b6, b7, b8, b9, b10, Bool.not_false, Bool.not_true, Bool.and_true, Bool.true_and, Bool.false_or])
  clear fin
  go_enter Try.func92, Try.ntmps92
  go_wp2_with (go_at_call 87; refine (l01In_any _ _ _ _).mono ?_; rintro e w' ⟨rfl, nd, rfl⟩)
  go_region_held3 (fun w' => Below w.heap.size w w' ∧ w'.cell? ⟨w.heap.size, 0, none⟩ = some (.slice (some ad2) l0_0.length c0_0) ∧ w'.cell? ⟨w.heap.size, 1, none⟩ = some (.slice (some ad) l0_1.length c0_1) ∧ w'.cell? ⟨w.heap.size, 2, none⟩ = some (.int .i64 a0_2)
     ∧ w'.cell? ⟨w.heap.size + 1, 0, none⟩ = some (.int .i64 tf) ∧ w'.cell? ⟨w.heap.size + 1, 1, none⟩ = some (.int .i64 tt) ∧ w'.cell? ⟨w.heap.size + 1, 2, none⟩ = some (.int .i64 tl) ∧ w'.cell? ⟨w.heap.size + 1, 4, none⟩ = some (.bool true)
     ∧ w'.cell? ⟨(ad2.add (tt.toNat * 3)).block, (ad2.add (tt.toNat * 3)).off + 1, none⟩ = some (.slice At (rd_T120 l0_0 tt).f1.length ct) ∧ w'.cell? ⟨(ad2.add (tt.toNat * 3)).block, (ad2.add (tt.toNat * 3)).off + 2, none⟩ = some (.int .i64 (rd_T120 l0_0 tt).f2)
     ∧ w'.cell? ⟨(ad2.add (tf.toNat * 3)).block, (ad2.add (tf.toNat * 3)).off + 1, none⟩ = some (.slice Af (rd_T120 l0_0 tf).f1.length cf))
    (first | (refine ⟨by repeat (first | (with_reducible first | exact Below.refl _ _ | apply below_alloc | apply pw_below_drewN | apply below_drew1 | assumption) | exact Below.refl _ _), ?_⟩; go_simp; done) | (refine ⟨below_step (by repeat (first | (with_reducible first | exact Below.refl _ _ | apply below_alloc | apply pw_below_drewN | apply below_drew1 | assumption) | exact Below.refl _ _)) hb, kcell hb ?_, kcell hb ?_, kcell hb ?_, kcell hb ?_, kcell hb ?_, kcell hb ?_, kcell hb ?_, kcell hb ?_, kcell hb ?_, kcell hb ?_⟩ <;> (go_simp; done)))
    (first | (go_at_call 142; (refine (l08Same_any _ ?s1 LM.out ?s2 LN.out).mono ?_); (case s1 => exact Kd.C_below GM.out (by repeat (first | (with_reducible first | exact Below.refl _ _ | apply below_alloc | apply pw_below_drewN | apply below_drew1 | assumption) | exact Below.refl _ _))); (case s2 => exact Kd.C_below GN.out (by repeat (first | (with_reducible first | exact Below.refl _ _ | apply below_alloc | apply pw_below_drewN | apply below_drew1 | assumption) | exact Below.refl _ _))); rintro e w' ⟨rfl, n, rfl⟩) | (go_at_call 103; (refine (l08Free_any tt _ ?s3 HCn.out ?s4 HCt.out).mono ?_); (case s3 => exact Kd.C_below HRn.out (by repeat (first | (with_reducible first | exact Below.refl _ _ | apply below_alloc | apply pw_below_drewN | apply below_drew1 | assumption) | exact Below.refl _ _))); (case s4 => exact Kd.C_below HRt.out (by repeat (first | (with_reducible first | exact Below.refl _ _ | apply below_alloc | apply pw_below_drewN | apply below_drew1 | assumption) | exact Below.refl _ _))); rintro e w' ⟨rfl, hb⟩))
  go_wp2
  go_ret
  exact ⟨by rw [HF.out]; rfl, (‹Below w.heap.size w _ ∧ _› : Below w.heap.size w _ ∧ _).1⟩

def spec_l08Tie.f (l0_0 : List (S120)) (l0_1 : List (S126)) (a0_2 : Int) (a1 : Int) : Option Bool := if 0 ≤ a1 ∧ a1 < (l0_1.length : Int) then some (tieB l0_0 l0_1 a1) else none
theorem spec_l08Tie.calls (A0_0 : Option Addr) (c0_0 : Nat) (l0_0 : List (S120)) (A0_1 : Option Addr) (c0_1 : Nat) (l0_1 : List (S126)) (a0_2 : Int) (a1 : Int) (r : Bool) (w : World) (hr0_0 : Kd.C k120 w A0_0 l0_0.length l0_0) (hc0_0 : l0_0.length ≤ c0_0) (hr0_1 : Kd.C k126 w A0_1 l0_1.length l0_1) (hc0_1 : l0_1.length ≤ c0_1) (h : spec_l08Tie.f l0_0 l0_1 a0_2 a1 = some r) :
    Calls Try.prog 92 #[.agg #[.slice A0_0 l0_0.length c0_0, .slice A0_1 l0_1.length c0_1, .int .i64 a0_2], .int .i64 a1] w fun e w' => e = .returned (.bool r) ∧ Below w.heap.size w w' := by
  unfold spec_l08Tie.f at h
  by_cases c : 0 ≤ a1 ∧ a1 < (l0_1.length : Int)
  · rw [if_pos c] at h
    obtain rfl := Option.some.inj h
    exact l08Tie_t _ _ _ _ _ _ _ _ _ hr0_0 hc0_0 hr0_1 hc0_1 c.1 c.2
  · rw [if_neg c] at h
    exact absurd h (by simp)

end Go.Proofs.Ytpoffpdaadhkgaa.Pr

namespace Go.Proofs.Ytpoffpdaadhkgaa.Pr
open Go.RowKit Go.Proofs.YtpoffpdaadhkgaaW.PrintWords Go.Proofs.YtpoffpdaadhkgaaW.PrintLast Go.Proofs.YtpoffpdaadhkgaaW.PrintMore
attribute [local go_sem] max2_int min2_int max_two min_two max_three min_three max_four min_four
set_option linter.unusedVariables false
set_option linter.unusedSimpArgs false

/-! ### spec_ShowOk: function 42 -/
mutual
def spec_ShowOk.j0 : Nat → Bool → List (S120) → List (S126) → Int → Option (Bool)
  | 0, _, _, _, _ => none
  | k + 1, x18, x42002000, x42002001, x42002002 => if x18 = true then (some false) else (spec_ShowOk.l0 k (x42002001.length : Int) 0 x42002000 x42002001 x42002002)
def spec_ShowOk.l0 : Nat → Int → Int → List (S120) → List (S126) → Int → Option (Bool)
  | 0, _, _, _, _, _ => none
  | k + 1, x21, x22, x42002000, x42002001, x42002002 => if x22 < x21 then ((spec_l08Tie.f x42002000 x42002001 x42002002 x22).bind fun t42004 => (if t42004 = true then (spec_ShowOk.l0 k x21 (wrap64 (x22 + 1)) x42002000 x42002001 x42002002) else (some false))) else (some true)
end
def spec_ShowOk.f (k : Nat) (l0_0 : List (S120)) (l0_1 : List (S126)) (a0_2 : Int) : Option (Bool) := (spec_l08Nodes.f l0_0 l0_1 a0_2).bind fun t42002 => (if t42002 = true then (if (l0_1.length : Int) > 14 then (spec_ShowOk.j0 k true l0_0 l0_1 a0_2) else ((spec_l01In.f a0_2 1 10).bind fun t42003 => (spec_ShowOk.j0 k (!t42003) l0_0 l0_1 a0_2))) else (spec_ShowOk.j0 k true l0_0 l0_1 a0_2))
set_option maxHeartbeats 8000000 in
set_option maxRecDepth 100000 in
theorem spec_ShowOk.calls (k : Nat) (A0_0 : Option Addr) (c0_0 : Nat) (l0_0 : List (S120)) (A0_1 : Option Addr) (c0_1 : Nat) (l0_1 : List (S126)) (a0_2 : Int) (r : Bool) (w : World) (hr0_0 : Kd.C k120 w A0_0 l0_0.length l0_0) (hc0_0 : l0_0.length ≤ c0_0) (hr0_1 : Kd.C k126 w A0_1 l0_1.length l0_1) (hc0_1 : l0_1.length ≤ c0_1) (h : spec_ShowOk.f k l0_0 l0_1 a0_2 = some r) :
    Calls Try.prog 42 #[.agg #[.slice A0_0 l0_0.length c0_0, .slice A0_1 l0_1.length c0_1, .int .i64 a0_2]] w fun e w' => e = .returned (.bool r) ∧ Below w.heap.size w w' := by
  have hu66 := Try.underlying66
  have HR0_0 := Aside0.mk hr0_0
  have HC0_0 := Aside0.mk hc0_0
  clear hr0_0 hc0_0
  have HR0_1 := Aside0.mk hr0_1
  have HC0_1 := Aside0.mk hc0_1
  clear hr0_1 hc0_1
  have HB := Aside0.mk (Below.refl w.heap.size w)
  have H : ((spec_l08Nodes.f l0_0 l0_1 a0_2).bind fun t42002 => (if t42002 = true then (if (l0_1.length : Int) > 14 then (spec_ShowOk.j0 k true l0_0 l0_1 a0_2) else ((spec_l01In.f a0_2 1 10).bind fun t42003 => (spec_ShowOk.j0 k (!t42003) l0_0 l0_1 a0_2))) else (spec_ShowOk.j0 k true l0_0 l0_1 a0_2))) = some r := h
  clear h
  have HC2 := Aside0.mk H
  clear H
  go_enter Try.func42, Try.ntmps42
  go_upto_region 1 with (first | ((with_reducible refine gate_dst (N := 1) rfl ?_); (try (refine gate_guard (by rfl) ?_; dsimp only)); refine box_event ?hg (N := 1) ?hd (cs := #[.slice A0_0 l0_0.length c0_0, .slice A0_1 l0_1.length c0_1, .int .i64 a0_2]) (t := 66) ?hr ?_; (case hd => rfl); (case hg => rfl); (case hr => first | (go_simp; done) | (go_simp; rfl)); intro gb42001 hg w3 hbox hb; have n0_ := Aside0.mk (below_step (by repeat (first | (with_reducible first | exact HB.out | apply below_alloc | apply pw_below_drewN | apply below_drew1) | exact HB.out)) hb); have n1_ := Aside0.mk (hbox); have n2_ := Aside0.mk ((by rw [hg]; exact (below_size (by repeat (first | (with_reducible first | exact HB.out | apply below_alloc | apply pw_below_drewN | apply below_drew1) | exact HB.out))) : w.heap.size ≤ gb42001)); have n3_ := Aside0.mk ((by rw [hg]; exact (below_size (by repeat (first | (with_reducible first | exact HB.out | apply below_alloc | apply pw_below_drewN | apply below_drew1) | exact HB.out))) : w.heap.size ≤ gb42001)); clear HB; have HB := n0_; have BK42001 := n1_; have GW42001 := n2_; have GE42001 := n3_; clear n0_ n1_ n2_ n3_; clear hb hbox hg))
  (try simp only [Act.put, List.setIfInBounds_toArray, List.set_cons_zero, List.set_cons_succ])
  go_cut [18] (fun v18 wc => ∃ (kq : Nat) (x18_1 : Bool), v18 = .bool x18_1 ∧ Aside0 (spec_ShowOk.j0 kq x18_1 l0_0 l0_1 a0_2 = some r) ∧ Aside0 (kq ≤ k) ∧ Aside0 (wc.heap[gb42001]? = some (.cells #[(.slice A0_0 l0_0.length c0_0), (.slice A0_1 l0_1.length c0_1), .int .i64 a0_2] 66 (0, 0))) ∧ Aside0 (Below w.heap.size w wc))
  case first =>
    have H := HC2.out
    clear HC2
    replace H := Option.bind_eq_some_iff.mp H
    obtain ⟨t42002, A40, H⟩ := H
    replace H : (if t42002 = true then (if (l0_1.length : Int) > 14 then (spec_ShowOk.j0 k true l0_0 l0_1 a0_2) else ((spec_l01In.f a0_2 1 10).bind fun t42003 => (spec_ShowOk.j0 k (!t42003) l0_0 l0_1 a0_2))) else (spec_ShowOk.j0 k true l0_0 l0_1 a0_2)) = some r := H
    have A4 := Aside0.mk A40
    clear A40
    by_cases c5 : t42002 = true
    · subst c5
      have H1 : (if (l0_1.length : Int) > 14 then (spec_ShowOk.j0 k true l0_0 l0_1 a0_2) else ((spec_l01In.f a0_2 1 10).bind fun t42003 => (spec_ShowOk.j0 k (!t42003) l0_0 l0_1 a0_2))) = some r := by rw [if_pos rfl] at H; exact H
      clear H
      have H := H1
      clear H1
      by_cases c6 : (l0_1.length : Int) > 14
      · rw [if_pos c6] at H
        have c6b0 : decide (14 < (l0_1.length : Int)) = true := decide_eq_true c6
        have c6b1 : decide (14 < l0_1.length) = true := decide_eq_true (by omega)
        clear c6
        (first | rw [c6b0] | (simp only [i64_w, i32_w]; rw [c6b0]) | skip)
        have H' := Aside0.mk H
        clear H
        have hcz7_0 : w3.cell? ⟨gb42001, 0, none⟩ = some (.slice A0_0 l0_0.length c0_0) := (blk_cell BK42001.out 0).trans rfl
        have hcz7_1 : w3.cell? ⟨gb42001, 1, none⟩ = some (.slice A0_1 l0_1.length c0_1) := (blk_cell BK42001.out 1).trans rfl
        have hcz7_2 : w3.cell? ⟨gb42001, 2, none⟩ = some (.int .i64 a0_2) := (blk_cell BK42001.out 2).trans rfl
        have hfz7_0 := blk_frozen BK42001.out 0
        have hfz7_1 := blk_frozen BK42001.out 1
        have hfz7_2 := blk_frozen BK42001.out 2
        go_wp2_with (first | ((with_reducible refine gate_callee (f := 91) rfl ?_); refine goesL_ (some 5) rfl rfl Try.func91 (by kernel_rfl) rfl #[.agg #[.slice A0_0 l0_0.length c0_0, .slice A0_1 l0_1.length c0_1, .int .i64 a0_2]] rfl (by (try simp only [List.map_toArray, List.map_cons, List.map_nil]); first | done | rfl | (simp only [List.length_drop, List.length_take]; rfl)) ?_; (with_reducible refine (spec_l08Nodes.calls _ _ l0_0 _ _ l0_1 a0_2 true _ ?side1 ?side2 ?side3 ?side4 A4.out).mono ?_); (case side1 => repeat (first | exact (Kd.C_below HR0_0.out HB.out) | (with_reducible refine Kd.C_alloc ?_ _) | (with_reducible refine Kd.C_drewN ?_ _) | (with_reducible refine Kd.C_drew ?_))); (case side2 => exact HC0_0.out); (case side3 => repeat (first | exact (Kd.C_below HR0_1.out HB.out) | (with_reducible refine Kd.C_alloc ?_ _) | (with_reducible refine Kd.C_drewN ?_ _) | (with_reducible refine Kd.C_drew ?_))); (case side4 => exact HC0_1.out); rintro e w8 ⟨rfl, hb⟩; refine ⟨_, rfl, ?_⟩; have n0_ := Aside0.mk (blk_below (g := gb42001) (o := .cells #[.slice A0_0 l0_0.length c0_0, .slice A0_1 l0_1.length c0_1, .int .i64 a0_2] 66 (0, 0)) (by (with_reducible repeat (first | refine blk_drewN ?_ _ | refine blk_drew ?_ | refine blk_alloc ?_ _)); exact BK42001.out) hb); have n1_ := Aside0.mk (below_step (by repeat (first | (with_reducible first | exact HB.out | apply below_alloc | apply pw_below_drewN | apply below_drew1 | refine below_set ?_ GE42001.out) | exact HB.out)) hb); clear BK42001; clear HB; have BK42001 := n0_; have HB := n1_; clear n0_ n1_; (try clear hb); (try clear hb2); (try clear hk); (try clear hi); have hcz9_0 : w8.cell? ⟨gb42001, 0, none⟩ = some (.slice A0_0 l0_0.length c0_0) := (blk_cell BK42001.out 0).trans rfl; have hcz9_1 : w8.cell? ⟨gb42001, 1, none⟩ = some (.slice A0_1 l0_1.length c0_1) := (blk_cell BK42001.out 1).trans rfl; have hcz9_2 : w8.cell? ⟨gb42001, 2, none⟩ = some (.int .i64 a0_2) := (blk_cell BK42001.out 2).trans rfl; have hfz9_0 := blk_frozen BK42001.out 0; have hfz9_1 := blk_frozen BK42001.out 1; have hfz9_2 := blk_frozen BK42001.out 2))
        go_meet
        case rel => exact ⟨_, (true), (by first | rfl | (simp; done) | (simp [*]; done)), H', ⟨by first | omega | exact Nat.le_refl _⟩, ⟨by (with_reducible repeat (first | refine blk_drewN ?_ _ | refine blk_drew ?_ | refine blk_alloc ?_ _)); exact BK42001.out⟩, ⟨by repeat (first | (with_reducible first | exact HB.out | apply below_alloc | apply pw_below_drewN | apply below_drew1 | refine below_set ?_ GE42001.out) | exact HB.out)⟩⟩
      · rw [if_neg c6] at H
        have c6b0 : decide (14 < (l0_1.length : Int)) = false := decide_eq_false c6
        have c6b1 : decide (14 < l0_1.length) = false := decide_eq_false (by omega)
        clear c6
        (first | rw [c6b0] | (simp only [i64_w, i32_w]; rw [c6b0]) | skip)
        replace H := Option.bind_eq_some_iff.mp H
        obtain ⟨t42003, A100, H⟩ := H
        replace H : (spec_ShowOk.j0 k (!t42003) l0_0 l0_1 a0_2) = some r := H
        have A10 := Aside0.mk A100
        clear A100
        have H' := Aside0.mk H
        clear H
        have hcz11_0 : w3.cell? ⟨gb42001, 0, none⟩ = some (.slice A0_0 l0_0.length c0_0) := (blk_cell BK42001.out 0).trans rfl
        have hcz11_1 : w3.cell? ⟨gb42001, 1, none⟩ = some (.slice A0_1 l0_1.length c0_1) := (blk_cell BK42001.out 1).trans rfl
        have hcz11_2 : w3.cell? ⟨gb42001, 2, none⟩ = some (.int .i64 a0_2) := (blk_cell BK42001.out 2).trans rfl
        have hfz11_0 := blk_frozen BK42001.out 0
        have hfz11_1 := blk_frozen BK42001.out 1
        have hfz11_2 := blk_frozen BK42001.out 2
        go_wp2_with (first | ((with_reducible refine gate_callee (f := 91) rfl ?_); refine goesL_ (some 5) rfl rfl Try.func91 (by kernel_rfl) rfl #[.agg #[.slice A0_0 l0_0.length c0_0, .slice A0_1 l0_1.length c0_1, .int .i64 a0_2]] rfl (by (try simp only [List.map_toArray, List.map_cons, List.map_nil]); first | done | rfl | (simp only [List.length_drop, List.length_take]; rfl)) ?_; (with_reducible refine (spec_l08Nodes.calls _ _ l0_0 _ _ l0_1 a0_2 true _ ?side1 ?side2 ?side3 ?side4 A4.out).mono ?_); (case side1 => repeat (first | exact (Kd.C_below HR0_0.out HB.out) | (with_reducible refine Kd.C_alloc ?_ _) | (with_reducible refine Kd.C_drewN ?_ _) | (with_reducible refine Kd.C_drew ?_))); (case side2 => exact HC0_0.out); (case side3 => repeat (first | exact (Kd.C_below HR0_1.out HB.out) | (with_reducible refine Kd.C_alloc ?_ _) | (with_reducible refine Kd.C_drewN ?_ _) | (with_reducible refine Kd.C_drew ?_))); (case side4 => exact HC0_1.out); rintro e w12 ⟨rfl, hb⟩; refine ⟨_, rfl, ?_⟩; have n0_ := Aside0.mk (blk_below (g := gb42001) (o := .cells #[.slice A0_0 l0_0.length c0_0, .slice A0_1 l0_1.length c0_1, .int .i64 a0_2] 66 (0, 0)) (by (with_reducible repeat (first | refine blk_drewN ?_ _ | refine blk_drew ?_ | refine blk_alloc ?_ _)); exact BK42001.out) hb); have n1_ := Aside0.mk (below_step (by repeat (first | (with_reducible first | exact HB.out | apply below_alloc | apply pw_below_drewN | apply below_drew1 | refine below_set ?_ GE42001.out) | exact HB.out)) hb); clear BK42001; clear HB; have BK42001 := n0_; have HB := n1_; clear n0_ n1_; (try clear hb); (try clear hb2); (try clear hk); (try clear hi); have hcz13_0 : w12.cell? ⟨gb42001, 0, none⟩ = some (.slice A0_0 l0_0.length c0_0) := (blk_cell BK42001.out 0).trans rfl; have hcz13_1 : w12.cell? ⟨gb42001, 1, none⟩ = some (.slice A0_1 l0_1.length c0_1) := (blk_cell BK42001.out 1).trans rfl; have hcz13_2 : w12.cell? ⟨gb42001, 2, none⟩ = some (.int .i64 a0_2) := (blk_cell BK42001.out 2).trans rfl; have hfz13_0 := blk_frozen BK42001.out 0; have hfz13_1 := blk_frozen BK42001.out 1; have hfz13_2 := blk_frozen BK42001.out 2) | (go_at_call 87; (with_reducible refine (spec_l01In.calls a0_2 1 10 t42003 _ A10.out).mono ?_); rintro e w' ⟨rfl, ⟨nd, rfl⟩⟩))
        go_meet
        case rel => exact ⟨_, (!t42003), (by first | rfl | (simp; done) | (simp [*]; done)), H', ⟨by first | omega | exact Nat.le_refl _⟩, ⟨by (with_reducible repeat (first | refine blk_drewN ?_ _ | refine blk_drew ?_ | refine blk_alloc ?_ _)); exact BK42001.out⟩, ⟨by repeat (first | (with_reducible first | exact HB.out | apply below_alloc | apply pw_below_drewN | apply below_drew1 | refine below_set ?_ GE42001.out) | exact HB.out)⟩⟩
    · replace c5 := Bool.eq_false_iff.mpr c5
      subst c5
      have H1 : (spec_ShowOk.j0 k true l0_0 l0_1 a0_2) = some r := by rw [if_neg (show ¬ (false = true) by decide)] at H; exact H
      clear H
      have H := H1
      clear H1
      have H' := Aside0.mk H
      clear H
      have hcz14_0 : w3.cell? ⟨gb42001, 0, none⟩ = some (.slice A0_0 l0_0.length c0_0) := (blk_cell BK42001.out 0).trans rfl
      have hcz14_1 : w3.cell? ⟨gb42001, 1, none⟩ = some (.slice A0_1 l0_1.length c0_1) := (blk_cell BK42001.out 1).trans rfl
      have hcz14_2 : w3.cell? ⟨gb42001, 2, none⟩ = some (.int .i64 a0_2) := (blk_cell BK42001.out 2).trans rfl
      have hfz14_0 := blk_frozen BK42001.out 0
      have hfz14_1 := blk_frozen BK42001.out 1
      have hfz14_2 := blk_frozen BK42001.out 2
      go_wp2_with (first | ((with_reducible refine gate_callee (f := 91) rfl ?_); refine goesL_ (some 5) rfl rfl Try.func91 (by kernel_rfl) rfl #[.agg #[.slice A0_0 l0_0.length c0_0, .slice A0_1 l0_1.length c0_1, .int .i64 a0_2]] rfl (by (try simp only [List.map_toArray, List.map_cons, List.map_nil]); first | done | rfl | (simp only [List.length_drop, List.length_take]; rfl)) ?_; (with_reducible refine (spec_l08Nodes.calls _ _ l0_0 _ _ l0_1 a0_2 false _ ?side1 ?side2 ?side3 ?side4 A4.out).mono ?_); (case side1 => repeat (first | exact (Kd.C_below HR0_0.out HB.out) | (with_reducible refine Kd.C_alloc ?_ _) | (with_reducible refine Kd.C_drewN ?_ _) | (with_reducible refine Kd.C_drew ?_))); (case side2 => exact HC0_0.out); (case side3 => repeat (first | exact (Kd.C_below HR0_1.out HB.out) | (with_reducible refine Kd.C_alloc ?_ _) | (with_reducible refine Kd.C_drewN ?_ _) | (with_reducible refine Kd.C_drew ?_))); (case side4 => exact HC0_1.out); rintro e w15 ⟨rfl, hb⟩; refine ⟨_, rfl, ?_⟩; have n0_ := Aside0.mk (blk_below (g := gb42001) (o := .cells #[.slice A0_0 l0_0.length c0_0, .slice A0_1 l0_1.length c0_1, .int .i64 a0_2] 66 (0, 0)) (by (with_reducible repeat (first | refine blk_drewN ?_ _ | refine blk_drew ?_ | refine blk_alloc ?_ _)); exact BK42001.out) hb); have n1_ := Aside0.mk (below_step (by repeat (first | (with_reducible first | exact HB.out | apply below_alloc | apply pw_below_drewN | apply below_drew1 | refine below_set ?_ GE42001.out) | exact HB.out)) hb); clear BK42001; clear HB; have BK42001 := n0_; have HB := n1_; clear n0_ n1_; (try clear hb); (try clear hb2); (try clear hk); (try clear hi)))
      go_meet
      case rel => exact ⟨_, (true), (by first | rfl | (simp; done) | (simp [*]; done)), H', ⟨by first | omega | exact Nat.le_refl _⟩, ⟨by (with_reducible repeat (first | refine blk_drewN ?_ _ | refine blk_drew ?_ | refine blk_alloc ?_ _)); exact BK42001.out⟩, ⟨by repeat (first | (with_reducible first | exact HB.out | apply below_alloc | apply pw_below_drewN | apply below_drew1 | refine below_set ?_ GE42001.out) | exact HB.out)⟩⟩
  case rest =>
    clear HC2
    try clear p2
    try clear c4
    try clear c5
    try clear c6
    try clear c6b0
    try clear c6b1
    try clear c9
    try clear hcz11_0
    try clear hcz11_1
    try clear hcz11_2
    try clear hcz13_0
    try clear hcz13_1
    try clear hcz13_2
    try clear hcz14_0
    try clear hcz14_1
    try clear hcz14_2
    try clear hcz7_0
    try clear hcz7_1
    try clear hcz7_2
    try clear hcz9_0
    try clear hcz9_1
    try clear hcz9_2
    try clear hfz11_0
    try clear hfz11_1
    try clear hfz11_2
    try clear hfz13_0
    try clear hfz13_1
    try clear hfz13_2
    try clear hfz14_0
    try clear hfz14_1
    try clear hfz14_2
    try clear hfz7_0
    try clear hfz7_1
    try clear hfz7_2
    try clear hfz9_0
    try clear hfz9_1
    try clear hfz9_2
    obtain ⟨kq, x18_1, rfl, HA, HJ1, BK42001, HB⟩ := hcut
    cases kq with
    | zero => exact absurd HA.out (by simp [spec_ShowOk.j0])
    | succ kj1 =>
      have H := HA.out
      clear HA
      simp only [spec_ShowOk.j0] at H
      by_cases c16 : x18_1 = true
      · subst c16
        have H1 : (some false) = some r := by rw [if_pos rfl] at H; exact H
        clear H
        have H := H1
        clear H1
        obtain rfl := Option.some.inj H
        go_wp2
        go_ret
        exact ⟨by first | rfl | (simp [errW_none, errW_some] <;> rfl) | (simp [*, errW_none, errW_some] <;> rfl), by repeat (first | (with_reducible first | exact HB.out | apply below_alloc | apply pw_below_drewN | apply below_drew1 | refine below_set ?_ GE42001.out) | exact HB.out)⟩
      · replace c16 := Bool.eq_false_iff.mpr c16
        subst c16
        have H1 : (spec_ShowOk.l0 kj1 (l0_1.length : Int) 0 l0_0 l0_1 a0_2) = some r := by rw [if_neg (show ¬ (false = true) by decide)] at H; exact H
        clear H
        have H := H1
        clear H1
        have H' := Aside0.mk H
        clear H
        have hcz17_0 : wc.cell? ⟨gb42001, 0, none⟩ = some (.slice A0_0 l0_0.length c0_0) := (blk_cell BK42001.out 0).trans rfl
        have hcz17_1 : wc.cell? ⟨gb42001, 1, none⟩ = some (.slice A0_1 l0_1.length c0_1) := (blk_cell BK42001.out 1).trans rfl
        have hcz17_2 : wc.cell? ⟨gb42001, 2, none⟩ = some (.int .i64 a0_2) := (blk_cell BK42001.out 2).trans rfl
        have hfz17_0 := blk_frozen BK42001.out 0
        have hfz17_1 := blk_frozen BK42001.out 1
        have hfz17_2 := blk_frozen BK42001.out 2
        go_wp2
        go_loopg [22] kj1 (fun kq v22 w' => ∃ (x22_2 : Int), v22 = .int .i64 x22_2 ∧ Aside0 (spec_ShowOk.l0 kq (l0_1.length : Int) x22_2 l0_0 l0_1 a0_2 = some r) ∧ Aside0 (kq ≤ kj1) ∧ Aside0 (w'.heap[gb42001]? = some (.cells #[(.slice A0_0 l0_0.length c0_0), (.slice A0_1 l0_1.length c0_1), .int .i64 a0_2] 66 (0, 0))) ∧ Aside0 (Below w.heap.size w w'))
        case atStart => exact ⟨(0), (by first | rfl | (simp; done) | (simp [*]; done)), H', ⟨Nat.le_refl _⟩, ⟨by (with_reducible repeat (first | refine blk_drewN ?_ _ | refine blk_drew ?_ | refine blk_alloc ?_ _)); exact BK42001.out⟩, ⟨by repeat (first | (with_reducible first | exact HB.out | apply below_alloc | apply pw_below_drewN | apply below_drew1 | refine below_set ?_ GE42001.out) | exact HB.out)⟩⟩
        case round =>
          clear H'
          try clear c1
          try clear p2
          try clear c4
          try clear c5
          try clear c6
          try clear c6b0
          try clear c6b1
          try clear c9
          try clear c16
          try clear hcz11_0
          try clear hcz11_1
          try clear hcz11_2
          try clear hcz13_0
          try clear hcz13_1
          try clear hcz13_2
          try clear hcz14_0
          try clear hcz14_1
          try clear hcz14_2
          try clear hcz17_0
          try clear hcz17_1
          try clear hcz17_2
          try clear hcz7_0
          try clear hcz7_1
          try clear hcz7_2
          try clear hcz9_0
          try clear hcz9_1
          try clear hcz9_2
          try clear hfz11_0
          try clear hfz11_1
          try clear hfz11_2
          try clear hfz13_0
          try clear hfz13_1
          try clear hfz13_2
          try clear hfz14_0
          try clear hfz14_1
          try clear hfz14_2
          try clear hfz17_0
          try clear hfz17_1
          try clear hfz17_2
          try clear hfz7_0
          try clear hfz7_1
          try clear hfz7_2
          try clear hfz9_0
          try clear hfz9_1
          try clear hfz9_2
          try clear p2
          obtain ⟨x22_2, rfl, HA, HK2, BK42001, HB⟩ := hrel
          cases gk with
          | zero => exact absurd HA.out (by simp [spec_ShowOk.l0])
          | succ k2 =>
            have H := HA.out
            clear HA
            simp only [spec_ShowOk.l0] at H
            by_cases c18 : x22_2 < (l0_1.length : Int)
            · rw [if_pos c18] at H
              have c18b0 : decide (x22_2 < (l0_1.length : Int)) = true := decide_eq_true c18
              clear c18
              replace H := Option.bind_eq_some_iff.mp H
              obtain ⟨t42004, A190, H⟩ := H
              replace H : (if t42004 = true then (spec_ShowOk.l0 k2 (l0_1.length : Int) (wrap64 (x22_2 + 1)) l0_0 l0_1 a0_2) else (some false)) = some r := H
              have A19 := Aside0.mk A190
              clear A190
              by_cases c20 : t42004 = true
              · subst c20
                have H1 : (spec_ShowOk.l0 k2 (l0_1.length : Int) (wrap64 (x22_2 + 1)) l0_0 l0_1 a0_2) = some r := by rw [if_pos rfl] at H; exact H
                clear H
                have H := H1
                clear H1
                have H' := Aside0.mk H
                clear H
                have hcz21_0 : wr.cell? ⟨gb42001, 0, none⟩ = some (.slice A0_0 l0_0.length c0_0) := (blk_cell BK42001.out 0).trans rfl
                have hcz21_1 : wr.cell? ⟨gb42001, 1, none⟩ = some (.slice A0_1 l0_1.length c0_1) := (blk_cell BK42001.out 1).trans rfl
                have hcz21_2 : wr.cell? ⟨gb42001, 2, none⟩ = some (.int .i64 a0_2) := (blk_cell BK42001.out 2).trans rfl
                have hfz21_0 := blk_frozen BK42001.out 0
                have hfz21_1 := blk_frozen BK42001.out 1
                have hfz21_2 := blk_frozen BK42001.out 2
                go_wp2_with (first | ((with_reducible refine gate_callee (f := 92) rfl ?_); refine goesL_ (some 27) rfl rfl Try.func92 (by kernel_rfl) rfl #[.agg #[.slice A0_0 l0_0.length c0_0, .slice A0_1 l0_1.length c0_1, .int .i64 a0_2], .int .i64 x22_2] rfl (by (try simp only [List.map_toArray, List.map_cons, List.map_nil]); first | done | rfl | (simp only [List.length_drop, List.length_take]; rfl)) ?_; (with_reducible refine (spec_l08Tie.calls _ _ l0_0 _ _ l0_1 a0_2 x22_2 true _ ?side1 ?side2 ?side3 ?side4 A19.out).mono ?_); (case side1 => repeat (first | exact (Kd.C_below HR0_0.out HB.out) | (with_reducible refine Kd.C_alloc ?_ _) | (with_reducible refine Kd.C_drewN ?_ _) | (with_reducible refine Kd.C_drew ?_))); (case side2 => exact HC0_0.out); (case side3 => repeat (first | exact (Kd.C_below HR0_1.out HB.out) | (with_reducible refine Kd.C_alloc ?_ _) | (with_reducible refine Kd.C_drewN ?_ _) | (with_reducible refine Kd.C_drew ?_))); (case side4 => exact HC0_1.out); rintro e w22 ⟨rfl, hb⟩; refine ⟨_, rfl, ?_⟩; have n0_ := Aside0.mk (blk_below (g := gb42001) (o := .cells #[.slice A0_0 l0_0.length c0_0, .slice A0_1 l0_1.length c0_1, .int .i64 a0_2] 66 (0, 0)) (by (with_reducible repeat (first | refine blk_drewN ?_ _ | refine blk_drew ?_ | refine blk_alloc ?_ _)); exact BK42001.out) hb); have n1_ := Aside0.mk (below_step (by repeat (first | (with_reducible first | exact HB.out | apply below_alloc | apply pw_below_drewN | apply below_drew1 | refine below_set ?_ GE42001.out) | exact HB.out)) hb); clear BK42001; clear HB; have BK42001 := n0_; have HB := n1_; clear n0_ n1_; (try clear hb); (try clear hb2); (try clear hk); (try clear hi)))
                go_roundg k2
                case measure => have := HJ1.out; have := HK2.out; omega
                case rel => exact ⟨(wrap64 (x22_2 + 1)), (by first | rfl | (simp; done) | (simp [*]; done)), H', ⟨by have := HJ1.out; have := HK2.out; omega⟩, ⟨by (with_reducible repeat (first | refine blk_drewN ?_ _ | refine blk_drew ?_ | refine blk_alloc ?_ _)); exact BK42001.out⟩, ⟨by repeat (first | (with_reducible first | exact HB.out | apply below_alloc | apply pw_below_drewN | apply below_drew1 | refine below_set ?_ GE42001.out) | exact HB.out)⟩⟩
              · replace c20 := Bool.eq_false_iff.mpr c20
                subst c20
                have H1 : (some false) = some r := by rw [if_neg (show ¬ (false = true) by decide)] at H; exact H
                clear H
                have H := H1
                clear H1
                obtain rfl := Option.some.inj H
                have hcz23_0 : wr.cell? ⟨gb42001, 0, none⟩ = some (.slice A0_0 l0_0.length c0_0) := (blk_cell BK42001.out 0).trans rfl
                have hcz23_1 : wr.cell? ⟨gb42001, 1, none⟩ = some (.slice A0_1 l0_1.length c0_1) := (blk_cell BK42001.out 1).trans rfl
                have hcz23_2 : wr.cell? ⟨gb42001, 2, none⟩ = some (.int .i64 a0_2) := (blk_cell BK42001.out 2).trans rfl
                have hfz23_0 := blk_frozen BK42001.out 0
                have hfz23_1 := blk_frozen BK42001.out 1
                have hfz23_2 := blk_frozen BK42001.out 2
                go_wp2_with (first | ((with_reducible refine gate_callee (f := 92) rfl ?_); refine goesL_ (some 27) rfl rfl Try.func92 (by kernel_rfl) rfl #[.agg #[.slice A0_0 l0_0.length c0_0, .slice A0_1 l0_1.length c0_1, .int .i64 a0_2], .int .i64 x22_2] rfl (by (try simp only [List.map_toArray, List.map_cons, List.map_nil]); first | done | rfl | (simp only [List.length_drop, List.length_take]; rfl)) ?_; (with_reducible refine (spec_l08Tie.calls _ _ l0_0 _ _ l0_1 a0_2 x22_2 false _ ?side1 ?side2 ?side3 ?side4 A19.out).mono ?_); (case side1 => repeat (first | exact (Kd.C_below HR0_0.out HB.out) | (with_reducible refine Kd.C_alloc ?_ _) | (with_reducible refine Kd.C_drewN ?_ _) | (with_reducible refine Kd.C_drew ?_))); (case side2 => exact HC0_0.out); (case side3 => repeat (first | exact (Kd.C_below HR0_1.out HB.out) | (with_reducible refine Kd.C_alloc ?_ _) | (with_reducible refine Kd.C_drewN ?_ _) | (with_reducible refine Kd.C_drew ?_))); (case side4 => exact HC0_1.out); rintro e w24 ⟨rfl, hb⟩; refine ⟨_, rfl, ?_⟩; have n0_ := Aside0.mk (blk_below (g := gb42001) (o := .cells #[.slice A0_0 l0_0.length c0_0, .slice A0_1 l0_1.length c0_1, .int .i64 a0_2] 66 (0, 0)) (by (with_reducible repeat (first | refine blk_drewN ?_ _ | refine blk_drew ?_ | refine blk_alloc ?_ _)); exact BK42001.out) hb); have n1_ := Aside0.mk (below_step (by repeat (first | (with_reducible first | exact HB.out | apply below_alloc | apply pw_below_drewN | apply below_drew1 | refine below_set ?_ GE42001.out) | exact HB.out)) hb); clear BK42001; clear HB; have BK42001 := n0_; have HB := n1_; clear n0_ n1_; (try clear hb); (try clear hb2); (try clear hk); (try clear hi)))
                go_ret
                exact ⟨by first | rfl | (simp [errW_none, errW_some] <;> rfl) | (simp [*, errW_none, errW_some] <;> rfl), by repeat (first | (with_reducible first | exact HB.out | apply below_alloc | apply pw_below_drewN | apply below_drew1 | refine below_set ?_ GE42001.out) | exact HB.out)⟩
            · rw [if_neg c18] at H
              have c18b0 : decide (x22_2 < (l0_1.length : Int)) = false := decide_eq_false c18
              clear c18
              obtain rfl := Option.some.inj H
              go_wp2
              go_ret
              exact ⟨by first | rfl | (simp [errW_none, errW_some] <;> rfl) | (simp [*, errW_none, errW_some] <;> rfl), by repeat (first | (with_reducible first | exact HB.out | apply below_alloc | apply pw_below_drewN | apply below_drew1 | refine below_set ?_ GE42001.out) | exact HB.out)⟩

end Go.Proofs.Ytpoffpdaadhkgaa.Pr

namespace Go.Proofs.Ytpoffpdaadhkgaa.Pr
open Go.RowKit Go.Proofs.YtpoffpdaadhkgaaW.PrintWords Go.Proofs.YtpoffpdaadhkgaaW.PrintLast Go.Proofs.YtpoffpdaadhkgaaW.PrintMore
attribute [local go_sem] max2_int min2_int max_two min_two max_three min_three max_four min_four
set_option linter.unusedVariables false
set_option linter.unusedSimpArgs false

/-! ### impl_Node: function 155 (by hand) -/
-- IMPORT Derived.Deep.LoopGhost
-- IMPORT Derived.Shelf.Abstract
-- IMPORT Derived.Test.YtpoffpdaadhkgaaQNice
open Go.Proofs.Ytpoffpdaadhkgaa.Ni
set_option maxHeartbeats 4000000 in
theorem impl_Node.any (p : S120 → Bool) (g : Nat) (lb : Array Value) (eg : ∀ args w, (callFunc g args).run Try.prog w = .ok (.enter g args) w) (A0 : Option Addr) (c0 : Nat) (l0 : List S120) (w : World) (hr0 : Kd.C k120 w A0 l0.length l0)
    (hp : ∀ (W : World) (x : S120) (A1_ : Option Addr) (c1_ : Nat), x ∈ l0 → Below w.heap.size w W → x.f1.length ≤ c1_ → Kd.C (Kd.int .i64) W A1_ x.f1.length x.f1 → Calls Try.prog g (#[.agg #[.string x.f0, .slice A1_ x.f1.length c1_, .int .i64 x.f2]] ++ lb) W fun e w' => e = .returned (.bool (p x)) ∧ Below W.heap.size W w') :
    Calls Try.prog 155 #[.slice A0 l0.length c0, .func (.func g) #[] lb] w fun e w' => e = .returned (.int .i64 (idxOf p l0)) ∧ Below w.heap.size w w' := by
  have HR0 := Aside0.mk hr0
  have HP := Aside0.mk hp
  clear hr0 hp
  have HL : l0.length ≤ 9223372036854775807 := HR0.out.2.1
  go_enter Try.func155, Try.ntmps155
  go_wp2
  go_loopg [5, 8] l0.length (fun gg _ s8 wr => ∃ kk : Nat, Aside0 (kk ≤ l0.length) ∧ Aside0 (l0.length - kk ≤ gg) ∧ s8 = .int .i64 kk ∧ Aside0 (Below w.heap.size w wr) ∧ Aside0 (∀ j y, j < kk → l0[j]? = some y → p y = false))
  case atStart => exact ⟨0, ⟨Nat.zero_le _⟩, ⟨by omega⟩, rfl, ⟨Below.refl _ _⟩, ⟨fun j y hj => absurd hj (Nat.not_lt_zero _)⟩⟩
  case round =>
    obtain ⟨kk, HK, HG, rfl, HB, HN⟩ := hrel
    by_cases hlt : kk < l0.length
    · have hltz : (kk : Int) < (l0.length : Int) := by omega
      obtain ⟨ad, A1_, c1_, e1, hx0, hx1, hx2, l1_, g1_⟩ := at_T120 HR0.out (kk : Int) (by omega) hltz
      cases e1
      replace hx0 := (HB.out.cell (World.block_lt_of_cell? w _ hx0)).trans hx0
      rw [Int.toNat_natCast] at hx0
      replace hx1 := (HB.out.cell (World.block_lt_of_cell? w _ hx1)).trans hx1
      rw [Int.toNat_natCast] at hx1
      replace hx2 := (HB.out.cell (World.block_lt_of_cell? w _ hx2)).trans hx2
      rw [Int.toNat_natCast] at hx2
      have hxe : l0[kk]? = some (rd_T120 l0 (kk : Int)) := by
        unfold rd_T120
        rw [Int.toNat_natCast, List.getD_eq_getElem?_getD, List.getElem?_eq_getElem hlt]; rfl

      generalize rd_T120 l0 (kk : Int) = y at hx0 hx1 hx2 l1_ g1_ hxe
      have HX := Aside0.mk hxe
      clear hxe
      have hcall := HP.out wr y A1_ c1_ (List.mem_of_getElem? HX.out) HB.out l1_ (Kd.C_below g1_ HB.out)
      clear g1_ l1_
      cases hq : p y with
      | true =>
        have HQ := Aside0.mk hq
        rw [hq] at hcall
        clear hq
        go_wp2_with (go_at_fn g; refine hcall.mono ?_; rintro e w' ⟨rfl, hb⟩)
        go_ret
        exact ⟨by rw [idxOf_hit p l0 kk y HX.out HQ.out HN.out]; rfl, HB.out.trans (hb.mono HB.out.size)⟩
      | false =>
        have HQ := Aside0.mk hq
        rw [hq] at hcall
        clear hq
        go_wp2_with (go_at_fn g; refine hcall.mono ?_; rintro e w' ⟨rfl, hb⟩)
        go_roundg (l0.length - (kk + 1))
        case measure => have := HG.out; omega
        case rel =>
          refine ⟨kk + 1, ⟨by omega⟩, ⟨by omega⟩, by go_num, ⟨HB.out.trans (hb.mono HB.out.size)⟩, ⟨fun j y' hj hy => ?_⟩⟩
          by_cases e : j = kk
          · subst e
            rw [HX.out] at hy
            cases hy
            exact HQ.out
          · exact HN.out j y' (by omega) hy
    · have hltz : ¬ (kk : Int) < (l0.length : Int) := by omega
      have : kk = l0.length := by have := HK.out; omega
      subst this
      go_wp2
      go_ret
      exact ⟨by rw [idxOf_miss p l0 HN.out]; rfl, HB.out⟩

end Go.Proofs.Ytpoffpdaadhkgaa.Pr

namespace Go.Proofs.Ytpoffpdaadhkgaa.Pr
open Go.RowKit Go.Proofs.YtpoffpdaadhkgaaW.PrintWords Go.Proofs.YtpoffpdaadhkgaaW.PrintLast Go.Proofs.YtpoffpdaadhkgaaW.PrintMore
attribute [local go_sem] max2_int min2_int max_two min_two max_three min_three max_four min_four
set_option linter.unusedVariables false
set_option linter.unusedSimpArgs false

/-! ### impl_watcher: function 102 (by hand) -/
open Go.Proofs.Ytpoffpdaadhkgaa.Ni
-- IMPORT Derived.Test.YtpoffpdaadhkgaaQNice
def pwatchI (ns : List S120) (p : Int) : Int := idxOf (fun n => decide (0 < p) && decide (n.f2 = p)) ns
def impl_watcher.f (l0_0 : List (S120)) (l0_1 : List (S126)) (a0_2 : Int) (a1 : Int) : Option Int := some (pwatchI l0_0 a1)
theorem impl_watcher_1.clo (B : Nat) (p : Int) (W : World) (hB : W.cell? ⟨B, 0, none⟩ = some (.int .i64 p)) (x : S120) (A1_ : Option Addr) (c1_ : Nat) :
    Calls Try.prog 156 #[.agg #[.string x.f0, .slice A1_ x.f1.length c1_, .int .i64 x.f2], .pointer (some ⟨B, 0, none⟩)] W fun e w' => e = .returned (.bool (decide (0 < p) && decide (x.f2 = p))) ∧ Below W.heap.size W w' := by
  have hlt : B < W.heap.size := World.block_lt_of_cell? W _ hB
  have HE := Aside0.mk (show (x.f2 == p) = decide (x.f2 = p) by rw [Bool.eq_iff_iff]; simp)
  cases hp : decide (0 < p) with
  | false =>
    go_enter Try.func156, Try.ntmps156
    go_wp2
    go_ret
    exact ⟨rfl, (Below.refl _ _).alloc (Nat.le_refl _) _⟩
  | true =>
    go_enter Try.func156, Try.ntmps156
    go_wp2
    go_ret
    exact ⟨by rw [← HE.out]; rfl, (Below.refl _ _).alloc (Nat.le_refl _) _⟩
set_option maxHeartbeats 4000000 in
theorem impl_watcher.calls (A0_0 : Option Addr) (c0_0 : Nat) (l0_0 : List (S120)) (A0_1 : Option Addr) (c0_1 : Nat) (l0_1 : List (S126)) (a0_2 : Int) (a1 : Int) (r : Int) (w : World) (hr0_0 : Kd.C k120 w A0_0 l0_0.length l0_0) (hc0_0 : l0_0.length ≤ c0_0) (hr0_1 : Kd.C k126 w A0_1 l0_1.length l0_1) (hc0_1 : l0_1.length ≤ c0_1) (h : impl_watcher.f l0_0 l0_1 a0_2 a1 = some r) :
    Calls Try.prog 102 #[.agg #[.slice A0_0 l0_0.length c0_0, .slice A0_1 l0_1.length c0_1, .int .i64 a0_2], .int .i64 a1] w fun e w' => e = .returned (.int .i64 r) ∧ Below w.heap.size w w' := by
  obtain rfl := Option.some.inj h
  have HC' := Aside0.mk fun (W : World) (B : Nat) (hb : Below w.heap.size w W) (hcell : W.cell? ⟨B, 0, none⟩ = some (.int .i64 a1)) => impl_Node.any (fun n => decide (0 < a1) && decide (n.f2 = a1)) 156 #[.pointer (some ⟨B, 0, none⟩)] (enters_of Try.func156 (by kernel_rfl) rfl) A0_0 c0_0 l0_0 W (Kd.C_below hr0_0 hb)
        (fun W' x A1_ c1_ _ hb' _ _ => impl_watcher_1.clo B a1 W' ((hb'.cell (World.block_lt_of_cell? W _ hcell)).trans hcell) x A1_ c1_)
  clear hr0_0 hr0_1 h
  have HB2 := Aside0.mk (((Below.refl w.heap.size w).alloc (Nat.le_refl _) (.cells #[.slice A0_0 l0_0.length c0_0, .slice A0_1 l0_1.length c0_1, .int .i64 a0_2] 66)).alloc (by simp) (.cells #[.int .i64 a1] 3))
  have hu := Try.underlying66
  go_enter Try.func102, Try.ntmps102
  go_wp2_with fail
  refine (HC'.out _ _ HB2.out (by go_simp)).mono ?_
  rintro e w' ⟨rfl, hb⟩
  go_wp2
  go_ret
  exact ⟨rfl, HB2.out.trans (hb.mono HB2.out.size)⟩

end Go.Proofs.Ytpoffpdaadhkgaa.Pr

namespace Go.Proofs.Ytpoffpdaadhkgaa.Pr
open Go.RowKit Go.Proofs.YtpoffpdaadhkgaaW.PrintWords Go.Proofs.YtpoffpdaadhkgaaW.PrintLast Go.Proofs.YtpoffpdaadhkgaaW.PrintMore
attribute [local go_sem] max2_int min2_int max_two min_two max_three min_three max_four min_four
set_option linter.unusedVariables false
set_option linter.unusedSimpArgs false

/-! ### impl_isWatched: function 98 -/
def impl_isWatched.f (k : Nat) (l0_0 : List (S120)) (l0_1 : List (S126)) (a0_2 : Int) (l1 : List Int) (a2 : Int) : Option (Bool) := (impl_propOf.f a2).bind fun t98002 => ((impl_watcher.f l0_0 l0_1 a0_2 t98002).bind fun t98003 => (if t98003 < 0 then (some false) else (if 0 ≤ t98003 then (if t98003 < (l0_0.length : Int) then ((slices_Contains_int_int.f ((rd_T120 l0_0 t98003).f1) a2).bind fun t98005 => (if t98005 = true then (some false) else ((slices_Contains_int_int.f ((rd_T120 l0_0 t98003).f1) (wrap64 (-a2))).bind fun t98006 => (if t98006 = true then (some false) else ((impl_ImpliesLabel.f k l1 ((rd_T120 l0_0 t98003).f1)).bind fun t98007 => (some t98007)))))) else (none)) else (none))))
set_option maxHeartbeats 8000000 in
set_option maxRecDepth 100000 in
theorem impl_isWatched.calls (k : Nat) (A0_0 : Option Addr) (c0_0 : Nat) (l0_0 : List (S120)) (A0_1 : Option Addr) (c0_1 : Nat) (l0_1 : List (S126)) (a0_2 : Int) (A1 : Option Addr) (c1 : Nat) (l1 : List Int) (a2 : Int) (r : Bool) (w : World) (hr0_0 : Kd.C k120 w A0_0 l0_0.length l0_0) (hc0_0 : l0_0.length ≤ c0_0) (hr0_1 : Kd.C k126 w A0_1 l0_1.length l0_1) (hc0_1 : l0_1.length ≤ c0_1) (hr1 : Kd.C (Kd.int .i64) w A1 l1.length l1) (hc1 : l1.length ≤ c1) (h : impl_isWatched.f k l0_0 l0_1 a0_2 l1 a2 = some r) :
    Calls Try.prog 98 #[.agg #[.slice A0_0 l0_0.length c0_0, .slice A0_1 l0_1.length c0_1, .int .i64 a0_2], .slice A1 l1.length c1, .int .i64 a2] w fun e w' => e = .returned (.bool r) ∧ Below w.heap.size w w' := by
  have hu66 := Try.underlying66
  have HR0_0 := Aside0.mk hr0_0
  have HC0_0 := Aside0.mk hc0_0
  clear hr0_0 hc0_0
  have HR0_1 := Aside0.mk hr0_1
  have HC0_1 := Aside0.mk hc0_1
  clear hr0_1 hc0_1
  have HR1 := Aside0.mk hr1
  have HC1 := Aside0.mk hc1
  clear hr1 hc1
  have HB := Aside0.mk (Below.refl w.heap.size w)
  have H : ((impl_propOf.f a2).bind fun t98002 => ((impl_watcher.f l0_0 l0_1 a0_2 t98002).bind fun t98003 => (if t98003 < 0 then (some false) else (if 0 ≤ t98003 then (if t98003 < (l0_0.length : Int) then ((slices_Contains_int_int.f ((rd_T120 l0_0 t98003).f1) a2).bind fun t98005 => (if t98005 = true then (some false) else ((slices_Contains_int_int.f ((rd_T120 l0_0 t98003).f1) (wrap64 (-a2))).bind fun t98006 => (if t98006 = true then (some false) else ((impl_ImpliesLabel.f k l1 ((rd_T120 l0_0 t98003).f1)).bind fun t98007 => (some t98007)))))) else (none)) else (none))))) = some r := h
  clear h
  replace H := Option.bind_eq_some_iff.mp H
  obtain ⟨t98002, A40, H⟩ := H
  replace H : ((impl_watcher.f l0_0 l0_1 a0_2 t98002).bind fun t98003 => (if t98003 < 0 then (some false) else (if 0 ≤ t98003 then (if t98003 < (l0_0.length : Int) then ((slices_Contains_int_int.f ((rd_T120 l0_0 t98003).f1) a2).bind fun t98005 => (if t98005 = true then (some false) else ((slices_Contains_int_int.f ((rd_T120 l0_0 t98003).f1) (wrap64 (-a2))).bind fun t98006 => (if t98006 = true then (some false) else ((impl_ImpliesLabel.f k l1 ((rd_T120 l0_0 t98003).f1)).bind fun t98007 => (some t98007)))))) else (none)) else (none)))) = some r := H
  have A4 := Aside0.mk A40
  clear A40
  replace H := Option.bind_eq_some_iff.mp H
  obtain ⟨t98003, A50, H⟩ := H
  replace H : (if t98003 < 0 then (some false) else (if 0 ≤ t98003 then (if t98003 < (l0_0.length : Int) then ((slices_Contains_int_int.f ((rd_T120 l0_0 t98003).f1) a2).bind fun t98005 => (if t98005 = true then (some false) else ((slices_Contains_int_int.f ((rd_T120 l0_0 t98003).f1) (wrap64 (-a2))).bind fun t98006 => (if t98006 = true then (some false) else ((impl_ImpliesLabel.f k l1 ((rd_T120 l0_0 t98003).f1)).bind fun t98007 => (some t98007)))))) else (none)) else (none))) = some r := H
  have A5 := Aside0.mk A50
  clear A50
  by_cases c6 : t98003 < 0
  · rw [if_pos c6] at H
    have c6b0 : decide (t98003 < 0) = true := decide_eq_true c6
    clear c6
    obtain rfl := Option.some.inj H
    go_enter Try.func98, Try.ntmps98
    try go_wp2_with (first | ((with_reducible refine gate_dst (N := 3) rfl ?_); refine box_event ?hg (N := 3) ?hd (cs := #[.slice A0_0 l0_0.length c0_0, .slice A0_1 l0_1.length c0_1, .int .i64 a0_2]) (t := 66) ?hr ?_; (case hd => rfl); (case hg => rfl); (case hr => first | (go_simp; done) | (go_simp; rfl)); intro gb98001 hg w7 hbox hb; have n0_ := Aside0.mk (below_step (by repeat (first | (with_reducible first | exact HB.out | apply below_alloc | apply pw_below_drewN | apply below_drew1) | exact HB.out)) hb); have n1_ := Aside0.mk (hbox); have n2_ := Aside0.mk ((by rw [hg]; exact (below_size (by repeat (first | (with_reducible first | exact HB.out | apply below_alloc | apply pw_below_drewN | apply below_drew1) | exact HB.out))) : w.heap.size ≤ gb98001)); have n3_ := Aside0.mk ((by rw [hg]; exact (below_size (by repeat (first | (with_reducible first | exact HB.out | apply below_alloc | apply pw_below_drewN | apply below_drew1) | exact HB.out))) : w.heap.size ≤ gb98001)); clear HB; have HB := n0_; have BK98001 := n1_; have GW98001 := n2_; have GE98001 := n3_; clear n0_ n1_ n2_ n3_; clear hb hbox hg))
    have n0_ := Aside0.mk (blk_drew BK98001.out)
    have n1_ := Aside0.mk (below_drew1 HB.out)
    clear BK98001
    clear HB
    have BK98001 := n0_
    have HB := n1_
    clear n0_ n1_
    refine start_ (n := 5) (S := fun w' => w'.cell? ⟨gb98001, 0, none⟩ = some (.slice A0_0 l0_0.length c0_0) ∧ w'.cell? ⟨gb98001, 1, none⟩ = some (.slice A0_1 l0_1.length c0_1) ∧ w'.cell? ⟨gb98001, 2, none⟩ = some (.int .i64 a0_2)) (ds := []) #[false, false, false, false, false] (by kernel_rfl) rfl rfl ⟨(blk_cell BK98001.out 0).trans rfl, (blk_cell BK98001.out 1).trans rfl, (blk_cell BK98001.out 2).trans rfl⟩ (fun hHeld => ?_)
    generalize w7.drew = w8 at BK98001 HB hHeld ⊢
    refine pure_ (i := 1) (N := some 10) (v := ?_) (a' := ?_) #[false, true, false, false, false] rfl rfl (by kernel_rfl) (fun _ _ _ h => h) (Or.inl ⟨by rfl, ?_⟩) ?_ ?_
    rotate_left
    · intro w'
      go_simp
      with_reducible rfl
    rotate_left
    · simp only [Act.put, List.setIfInBounds_toArray, List.set_cons_zero, List.set_cons_succ, i64_w, i32_w]
      rfl
    refine take_ (i := 0) (N := some 9) (v := ?_) (a' := ?_) #[true, true, false, false, false] rfl rfl (by kernel_rfl) (fun _ _ _ h => h) (Or.inl ⟨by rfl, ?_⟩) hHeld ?_ ?_
    rotate_left
    · rintro w' ⟨s0, s1, s2⟩
      go_simp
      with_reducible rfl
    rotate_left
    · simp only [Act.put, List.setIfInBounds_toArray, List.set_cons_zero, List.set_cons_succ, i64_w, i32_w]
      rfl
    refine one_ (i := 2) (N := some 11) #[true, true, true, false, false] rfl rfl (by kernel_rfl) (by decide) (fun K hK => ?_)
    refine goes_ Try.func150 (by kernel_rfl) rfl #[.int .i64 a2] (by rfl) rfl rfl (by (try simp only [List.map_toArray, List.map_cons, List.map_nil]); first | done | rfl | (simp only [List.length_drop, List.length_take]; rfl)) ?_
    with_reducible refine (impl_propOf.calls a2 t98002 _ A4.out).mono ?_
    rintro e w9 ⟨rfl, hb⟩
    refine ⟨_, rfl, ?_⟩
    have n0_ := Aside0.mk (blk_below (g := gb98001) (o := .cells #[.slice A0_0 l0_0.length c0_0, .slice A0_1 l0_1.length c0_1, .int .i64 a0_2] 66 (0, 0)) (by (with_reducible repeat (first | refine blk_drewN ?_ _ | refine blk_drew ?_ | refine blk_alloc ?_ _)); exact BK98001.out) hb)
    have n1_ := Aside0.mk (below_step (by repeat (first | (with_reducible first | exact HB.out | apply below_alloc | apply pw_below_drewN | apply below_drew1 | refine below_set ?_ GE98001.out) | exact HB.out)) hb)
    clear BK98001
    clear HB
    have BK98001 := n0_
    have HB := n1_
    clear n0_ n1_
    (try clear hb)
    (try clear hb2)
    (try clear hk)
    (try clear hi)
    refine hK.out _ _ ⟨(blk_cell BK98001.out 0).trans rfl, (blk_cell BK98001.out 1).trans rfl, (blk_cell BK98001.out 2).trans rfl⟩ (fun hHeld => ?_)
    clear hK K
    refine norm_ (a' := ?_) ?_ ?_
    rotate_left
    · show Act.put _ (some 11) _ = _
      simp only [Act.put, List.setIfInBounds_toArray, List.set_cons_zero, List.set_cons_succ, i64_w, i32_w]
      rfl
    refine one_ (i := 3) (N := some 12) #[true, true, true, true, false] rfl rfl (by kernel_rfl) (by decide) (fun K hK => ?_)
    refine goes_ Try.func102 (by kernel_rfl) rfl #[.agg #[.slice A0_0 l0_0.length c0_0, .slice A0_1 l0_1.length c0_1, .int .i64 a0_2], .int .i64 t98002] (by rfl) rfl rfl (by (try simp only [List.map_toArray, List.map_cons, List.map_nil]); first | done | rfl | (simp only [List.length_drop, List.length_take]; rfl)) ?_
    with_reducible refine (impl_watcher.calls _ _ l0_0 _ _ l0_1 a0_2 t98002 t98003 _ ?side1 ?side2 ?side3 ?side4 A5.out).mono ?_
    (case side1 => repeat (first | exact (Kd.C_below HR0_0.out HB.out) | (with_reducible refine Kd.C_alloc ?_ _) | (with_reducible refine Kd.C_drewN ?_ _) | (with_reducible refine Kd.C_drew ?_)))
    (case side2 => exact HC0_0.out)
    (case side3 => repeat (first | exact (Kd.C_below HR0_1.out HB.out) | (with_reducible refine Kd.C_alloc ?_ _) | (with_reducible refine Kd.C_drewN ?_ _) | (with_reducible refine Kd.C_drew ?_)))
    (case side4 => exact HC0_1.out)
    rintro e w10 ⟨rfl, hb⟩
    refine ⟨_, rfl, ?_⟩
    have n0_ := Aside0.mk (blk_below (g := gb98001) (o := .cells #[.slice A0_0 l0_0.length c0_0, .slice A0_1 l0_1.length c0_1, .int .i64 a0_2] 66 (0, 0)) (by (with_reducible repeat (first | refine blk_drewN ?_ _ | refine blk_drew ?_ | refine blk_alloc ?_ _)); exact BK98001.out) hb)
    have n1_ := Aside0.mk (below_step (by repeat (first | (with_reducible first | exact HB.out | apply below_alloc | apply pw_below_drewN | apply below_drew1 | refine below_set ?_ GE98001.out) | exact HB.out)) hb)
    clear BK98001
    clear HB
    have BK98001 := n0_
    have HB := n1_
    clear n0_ n1_
    (try clear hb)
    (try clear hb2)
    (try clear hk)
    (try clear hi)
    refine hK.out _ _ ⟨(blk_cell BK98001.out 0).trans rfl, (blk_cell BK98001.out 1).trans rfl, (blk_cell BK98001.out 2).trans rfl⟩ (fun hHeld => ?_)
    clear hK K
    refine norm_ (a' := ?_) ?_ ?_
    rotate_left
    · show Act.put _ (some 12) _ = _
      simp only [Act.put, List.setIfInBounds_toArray, List.set_cons_zero, List.set_cons_succ, i64_w, i32_w]
      rfl
    refine pure_ (i := 4) (N := some 7) (v := ?_) (a' := ?_) #[true, true, true, true, true] rfl rfl (by kernel_rfl) (fun _ _ _ h => h) (Or.inl ⟨by rfl, ?_⟩) ?_ ?_
    rotate_left
    · intro w'
      go_simp
      with_reducible rfl
    rotate_left
    · simp only [Act.put, List.setIfInBounds_toArray, List.set_cons_zero, List.set_cons_succ, i64_w, i32_w]
      rfl
    refine done_ (by kernel_rfl) ?_
    try go_wp2
    go_ret
    exact ⟨by first | rfl | (simp [errW_none, errW_some] <;> rfl) | (simp [*, errW_none, errW_some] <;> rfl), by repeat (first | (with_reducible first | exact HB.out | apply below_alloc | apply pw_below_drewN | apply below_drew1 | refine below_set ?_ GE98001.out) | exact HB.out)⟩
  · rw [if_neg c6] at H
    have c6b0 : decide (t98003 < 0) = false := decide_eq_false c6
    clear c6
    by_cases c11 : 0 ≤ t98003
    · rw [if_pos c11] at H
      have c11b0 : decide (0 ≤ t98003) = true := decide_eq_true c11
      clear c11
      by_cases c12 : t98003 < (l0_0.length : Int)
      · rw [if_pos c12] at H
        have c12b0 : decide (t98003 < (l0_0.length : Int)) = true := decide_eq_true c12
        clear c12
        replace H := Option.bind_eq_some_iff.mp H
        obtain ⟨t98005, A130, H⟩ := H
        replace H : (if t98005 = true then (some false) else ((slices_Contains_int_int.f ((rd_T120 l0_0 t98003).f1) (wrap64 (-a2))).bind fun t98006 => (if t98006 = true then (some false) else ((impl_ImpliesLabel.f k l1 ((rd_T120 l0_0 t98003).f1)).bind fun t98007 => (some t98007))))) = some r := H
        have A13 := Aside0.mk A130
        clear A130
        by_cases c14 : t98005 = true
        · subst c14
          have H1 : (some false) = some r := by rw [if_pos rfl] at H; exact H
          clear H
          have H := H1
          clear H1
          obtain rfl := Option.some.inj H
          go_enter Try.func98, Try.ntmps98
          try go_wp2_with (first | ((with_reducible refine gate_dst (N := 3) rfl ?_); refine box_event ?hg (N := 3) ?hd (cs := #[.slice A0_0 l0_0.length c0_0, .slice A0_1 l0_1.length c0_1, .int .i64 a0_2]) (t := 66) ?hr ?_; (case hd => rfl); (case hg => rfl); (case hr => first | (go_simp; done) | (go_simp; rfl)); intro gb98001 hg w15 hbox hb; have n0_ := Aside0.mk (below_step (by repeat (first | (with_reducible first | exact HB.out | apply below_alloc | apply pw_below_drewN | apply below_drew1) | exact HB.out)) hb); have n1_ := Aside0.mk (hbox); have n2_ := Aside0.mk ((by rw [hg]; exact (below_size (by repeat (first | (with_reducible first | exact HB.out | apply below_alloc | apply pw_below_drewN | apply below_drew1) | exact HB.out))) : w.heap.size ≤ gb98001)); have n3_ := Aside0.mk ((by rw [hg]; exact (below_size (by repeat (first | (with_reducible first | exact HB.out | apply below_alloc | apply pw_below_drewN | apply below_drew1) | exact HB.out))) : w.heap.size ≤ gb98001)); clear HB; have HB := n0_; have BK98001 := n1_; have GW98001 := n2_; have GE98001 := n3_; clear n0_ n1_ n2_ n3_; clear hb hbox hg))
          have n0_ := Aside0.mk (blk_drew BK98001.out)
          have n1_ := Aside0.mk (below_drew1 HB.out)
          clear BK98001
          clear HB
          have BK98001 := n0_
          have HB := n1_
          clear n0_ n1_
          refine start_ (n := 5) (S := fun w' => w'.cell? ⟨gb98001, 0, none⟩ = some (.slice A0_0 l0_0.length c0_0) ∧ w'.cell? ⟨gb98001, 1, none⟩ = some (.slice A0_1 l0_1.length c0_1) ∧ w'.cell? ⟨gb98001, 2, none⟩ = some (.int .i64 a0_2)) (ds := []) #[false, false, false, false, false] (by kernel_rfl) rfl rfl ⟨(blk_cell BK98001.out 0).trans rfl, (blk_cell BK98001.out 1).trans rfl, (blk_cell BK98001.out 2).trans rfl⟩ (fun hHeld => ?_)
          generalize w15.drew = w16 at BK98001 HB hHeld ⊢
          refine pure_ (i := 1) (N := some 10) (v := ?_) (a' := ?_) #[false, true, false, false, false] rfl rfl (by kernel_rfl) (fun _ _ _ h => h) (Or.inl ⟨by rfl, ?_⟩) ?_ ?_
          rotate_left
          · intro w'
            go_simp
            with_reducible rfl
          rotate_left
          · simp only [Act.put, List.setIfInBounds_toArray, List.set_cons_zero, List.set_cons_succ, i64_w, i32_w]
            rfl
          refine take_ (i := 0) (N := some 9) (v := ?_) (a' := ?_) #[true, true, false, false, false] rfl rfl (by kernel_rfl) (fun _ _ _ h => h) (Or.inl ⟨by rfl, ?_⟩) hHeld ?_ ?_
          rotate_left
          · rintro w' ⟨s0, s1, s2⟩
            go_simp
            with_reducible rfl
          rotate_left
          · simp only [Act.put, List.setIfInBounds_toArray, List.set_cons_zero, List.set_cons_succ, i64_w, i32_w]
            rfl
          refine one_ (i := 2) (N := some 11) #[true, true, true, false, false] rfl rfl (by kernel_rfl) (by decide) (fun K hK => ?_)
          refine goes_ Try.func150 (by kernel_rfl) rfl #[.int .i64 a2] (by rfl) rfl rfl (by (try simp only [List.map_toArray, List.map_cons, List.map_nil]); first | done | rfl | (simp only [List.length_drop, List.length_take]; rfl)) ?_
          with_reducible refine (impl_propOf.calls a2 t98002 _ A4.out).mono ?_
          rintro e w17 ⟨rfl, hb⟩
          refine ⟨_, rfl, ?_⟩
          have n0_ := Aside0.mk (blk_below (g := gb98001) (o := .cells #[.slice A0_0 l0_0.length c0_0, .slice A0_1 l0_1.length c0_1, .int .i64 a0_2] 66 (0, 0)) (by (with_reducible repeat (first | refine blk_drewN ?_ _ | refine blk_drew ?_ | refine blk_alloc ?_ _)); exact BK98001.out) hb)
          have n1_ := Aside0.mk (below_step (by repeat (first | (with_reducible first | exact HB.out | apply below_alloc | apply pw_below_drewN | apply below_drew1 | refine below_set ?_ GE98001.out) | exact HB.out)) hb)
          clear BK98001
          clear HB
          have BK98001 := n0_
          have HB := n1_
          clear n0_ n1_
          (try clear hb)
          (try clear hb2)
          (try clear hk)
          (try clear hi)
          refine hK.out _ _ ⟨(blk_cell BK98001.out 0).trans rfl, (blk_cell BK98001.out 1).trans rfl, (blk_cell BK98001.out 2).trans rfl⟩ (fun hHeld => ?_)
          clear hK K
          refine norm_ (a' := ?_) ?_ ?_
          rotate_left
          · show Act.put _ (some 11) _ = _
            simp only [Act.put, List.setIfInBounds_toArray, List.set_cons_zero, List.set_cons_succ, i64_w, i32_w]
            rfl
          refine one_ (i := 3) (N := some 12) #[true, true, true, true, false] rfl rfl (by kernel_rfl) (by decide) (fun K hK => ?_)
          refine goes_ Try.func102 (by kernel_rfl) rfl #[.agg #[.slice A0_0 l0_0.length c0_0, .slice A0_1 l0_1.length c0_1, .int .i64 a0_2], .int .i64 t98002] (by rfl) rfl rfl (by (try simp only [List.map_toArray, List.map_cons, List.map_nil]); first | done | rfl | (simp only [List.length_drop, List.length_take]; rfl)) ?_
          with_reducible refine (impl_watcher.calls _ _ l0_0 _ _ l0_1 a0_2 t98002 t98003 _ ?side1 ?side2 ?side3 ?side4 A5.out).mono ?_
          (case side1 => repeat (first | exact (Kd.C_below HR0_0.out HB.out) | (with_reducible refine Kd.C_alloc ?_ _) | (with_reducible refine Kd.C_drewN ?_ _) | (with_reducible refine Kd.C_drew ?_)))
          (case side2 => exact HC0_0.out)
          (case side3 => repeat (first | exact (Kd.C_below HR0_1.out HB.out) | (with_reducible refine Kd.C_alloc ?_ _) | (with_reducible refine Kd.C_drewN ?_ _) | (with_reducible refine Kd.C_drew ?_)))
          (case side4 => exact HC0_1.out)
          rintro e w18 ⟨rfl, hb⟩
          refine ⟨_, rfl, ?_⟩
          have n0_ := Aside0.mk (blk_below (g := gb98001) (o := .cells #[.slice A0_0 l0_0.length c0_0, .slice A0_1 l0_1.length c0_1, .int .i64 a0_2] 66 (0, 0)) (by (with_reducible repeat (first | refine blk_drewN ?_ _ | refine blk_drew ?_ | refine blk_alloc ?_ _)); exact BK98001.out) hb)
          have n1_ := Aside0.mk (below_step (by repeat (first | (with_reducible first | exact HB.out | apply below_alloc | apply pw_below_drewN | apply below_drew1 | refine below_set ?_ GE98001.out) | exact HB.out)) hb)
          clear BK98001
          clear HB
          have BK98001 := n0_
          have HB := n1_
          clear n0_ n1_
          (try clear hb)
          (try clear hb2)
          (try clear hk)
          (try clear hi)
          refine hK.out _ _ ⟨(blk_cell BK98001.out 0).trans rfl, (blk_cell BK98001.out 1).trans rfl, (blk_cell BK98001.out 2).trans rfl⟩ (fun hHeld => ?_)
          clear hK K
          refine norm_ (a' := ?_) ?_ ?_
          rotate_left
          · show Act.put _ (some 12) _ = _
            simp only [Act.put, List.setIfInBounds_toArray, List.set_cons_zero, List.set_cons_succ, i64_w, i32_w]
            rfl
          refine pure_ (i := 4) (N := some 7) (v := ?_) (a' := ?_) #[true, true, true, true, true] rfl rfl (by kernel_rfl) (fun _ _ _ h => h) (Or.inl ⟨by rfl, ?_⟩) ?_ ?_
          rotate_left
          · intro w'
            go_simp
            with_reducible rfl
          rotate_left
          · simp only [Act.put, List.setIfInBounds_toArray, List.set_cons_zero, List.set_cons_succ, i64_w, i32_w]
            rfl
          refine done_ (by kernel_rfl) ?_
          have hcz19_0 : w18.cell? ⟨gb98001, 0, none⟩ = some (.slice A0_0 l0_0.length c0_0) := (blk_cell BK98001.out 0).trans rfl
          have hcz19_1 : w18.cell? ⟨gb98001, 1, none⟩ = some (.slice A0_1 l0_1.length c0_1) := (blk_cell BK98001.out 1).trans rfl
          have hcz19_2 : w18.cell? ⟨gb98001, 2, none⟩ = some (.int .i64 a0_2) := (blk_cell BK98001.out 2).trans rfl
          have hfz19_0 := blk_frozen BK98001.out 0
          have hfz19_1 := blk_frozen BK98001.out 1
          have hfz19_2 := blk_frozen BK98001.out 2
          have p98004 : 0 ≤ (t98003 : Int) := of_decide_eq_true (by first | (with_reducible assumption) | assumption)
          have q98004 : t98003 < (l0_0.length : Int) := of_decide_eq_true (by first | (with_reducible assumption) | assumption)
          obtain ⟨ad98004, A98004_1, c98004_1, e98004, hx98004_0, hx98004_1, hx98004_2, hl98004_1, hi98004_1⟩ := at_T120 HR0_0.out t98003 p98004 q98004
          cases e98004
          replace hx98004_0 := (HB.out.cell (World.block_lt_of_cell? w _ hx98004_0)).trans hx98004_0
          replace hx98004_1 := (HB.out.cell (World.block_lt_of_cell? w _ hx98004_1)).trans hx98004_1
          replace hx98004_2 := (HB.out.cell (World.block_lt_of_cell? w _ hx98004_2)).trans hx98004_2
          have HR98004_1 := Aside0.mk hi98004_1
          have HC98004_1 := Aside0.mk hl98004_1
          clear hi98004_1 hl98004_1
          replace p98004 := eq_true p98004
          replace q98004 := eq_true q98004
          try go_wp2_with (first | ((with_reducible refine gate_callee (f := 151) rfl ?_); refine goesL_ (some 23) rfl rfl Try.func151 (by kernel_rfl) rfl #[.slice A98004_1 ((rd_T120 l0_0 t98003).f1).length c98004_1, .int .i64 a2] rfl (by (try simp only [List.map_toArray, List.map_cons, List.map_nil]); first | done | rfl | (simp only [List.length_drop, List.length_take]; rfl)) ?_; (with_reducible refine (slices_Contains_int_int.calls _ _ ((rd_T120 l0_0 t98003).f1) a2 true _ ?side1 ?side2 A13.out).mono ?_); (case side1 => repeat (first | exact (Kd.C_below HR98004_1.out HB.out) | (with_reducible refine Kd.C_alloc ?_ _) | (with_reducible refine Kd.C_drewN ?_ _) | (with_reducible refine Kd.C_drew ?_))); (case side2 => exact HC98004_1.out); rintro e w20 ⟨rfl, hb⟩; refine ⟨_, rfl, ?_⟩; have n0_ := Aside0.mk (blk_below (g := gb98001) (o := .cells #[.slice (some ad98004) l0_0.length c0_0, .slice A0_1 l0_1.length c0_1, .int .i64 a0_2] 66 (0, 0)) (by (with_reducible repeat (first | refine blk_drewN ?_ _ | refine blk_drew ?_ | refine blk_alloc ?_ _)); exact BK98001.out) hb); have n1_ := Aside0.mk (below_step (by repeat (first | (with_reducible first | exact HB.out | apply below_alloc | apply pw_below_drewN | apply below_drew1 | refine below_set ?_ GE98001.out) | exact HB.out)) hb); clear BK98001; clear HB; have BK98001 := n0_; have HB := n1_; clear n0_ n1_; (try clear hb); (try clear hb2); (try clear hk); (try clear hi)))
          go_ret
          exact ⟨by first | rfl | (simp [errW_none, errW_some] <;> rfl) | (simp [*, errW_none, errW_some] <;> rfl), by repeat (first | (with_reducible first | exact HB.out | apply below_alloc | apply pw_below_drewN | apply below_drew1 | refine below_set ?_ GE98001.out) | exact HB.out)⟩
        · replace c14 := Bool.eq_false_iff.mpr c14
          subst c14
          have H1 : ((slices_Contains_int_int.f ((rd_T120 l0_0 t98003).f1) (wrap64 (-a2))).bind fun t98006 => (if t98006 = true then (some false) else ((impl_ImpliesLabel.f k l1 ((rd_T120 l0_0 t98003).f1)).bind fun t98007 => (some t98007)))) = some r := by rw [if_neg (show ¬ (false = true) by decide)] at H; exact H
          clear H
          have H := H1
          clear H1
          replace H := Option.bind_eq_some_iff.mp H
          obtain ⟨t98006, A210, H⟩ := H
          replace H : (if t98006 = true then (some false) else ((impl_ImpliesLabel.f k l1 ((rd_T120 l0_0 t98003).f1)).bind fun t98007 => (some t98007))) = some r := H
          have A21 := Aside0.mk A210
          clear A210
          by_cases c22 : t98006 = true
          · subst c22
            have H1 : (some false) = some r := by rw [if_pos rfl] at H; exact H
            clear H
            have H := H1
            clear H1
            obtain rfl := Option.some.inj H
            go_enter Try.func98, Try.ntmps98
            try go_wp2_with (first | ((with_reducible refine gate_dst (N := 3) rfl ?_); refine box_event ?hg (N := 3) ?hd (cs := #[.slice A0_0 l0_0.length c0_0, .slice A0_1 l0_1.length c0_1, .int .i64 a0_2]) (t := 66) ?hr ?_; (case hd => rfl); (case hg => rfl); (case hr => first | (go_simp; done) | (go_simp; rfl)); intro gb98001 hg w23 hbox hb; have n0_ := Aside0.mk (below_step (by repeat (first | (with_reducible first | exact HB.out | apply below_alloc | apply pw_below_drewN | apply below_drew1) | exact HB.out)) hb); have n1_ := Aside0.mk (hbox); have n2_ := Aside0.mk ((by rw [hg]; exact (below_size (by repeat (first | (with_reducible first | exact HB.out | apply below_alloc | apply pw_below_drewN | apply below_drew1) | exact HB.out))) : w.heap.size ≤ gb98001)); have n3_ := Aside0.mk ((by rw [hg]; exact (below_size (by repeat (first | (with_reducible first | exact HB.out | apply below_alloc | apply pw_below_drewN | apply below_drew1) | exact HB.out))) : w.heap.size ≤ gb98001)); clear HB; have HB := n0_; have BK98001 := n1_; have GW98001 := n2_; have GE98001 := n3_; clear n0_ n1_ n2_ n3_; clear hb hbox hg))
            have n0_ := Aside0.mk (blk_drew BK98001.out)
            have n1_ := Aside0.mk (below_drew1 HB.out)
            clear BK98001
            clear HB
            have BK98001 := n0_
            have HB := n1_
            clear n0_ n1_
            refine start_ (n := 5) (S := fun w' => w'.cell? ⟨gb98001, 0, none⟩ = some (.slice A0_0 l0_0.length c0_0) ∧ w'.cell? ⟨gb98001, 1, none⟩ = some (.slice A0_1 l0_1.length c0_1) ∧ w'.cell? ⟨gb98001, 2, none⟩ = some (.int .i64 a0_2)) (ds := []) #[false, false, false, false, false] (by kernel_rfl) rfl rfl ⟨(blk_cell BK98001.out 0).trans rfl, (blk_cell BK98001.out 1).trans rfl, (blk_cell BK98001.out 2).trans rfl⟩ (fun hHeld => ?_)
            generalize w23.drew = w24 at BK98001 HB hHeld ⊢
            refine pure_ (i := 1) (N := some 10) (v := ?_) (a' := ?_) #[false, true, false, false, false] rfl rfl (by kernel_rfl) (fun _ _ _ h => h) (Or.inl ⟨by rfl, ?_⟩) ?_ ?_
            rotate_left
            · intro w'
              go_simp
              with_reducible rfl
            rotate_left
            · simp only [Act.put, List.setIfInBounds_toArray, List.set_cons_zero, List.set_cons_succ, i64_w, i32_w]
              rfl
            refine take_ (i := 0) (N := some 9) (v := ?_) (a' := ?_) #[true, true, false, false, false] rfl rfl (by kernel_rfl) (fun _ _ _ h => h) (Or.inl ⟨by rfl, ?_⟩) hHeld ?_ ?_
            rotate_left
            · rintro w' ⟨s0, s1, s2⟩
              go_simp
              with_reducible rfl
            rotate_left
            · simp only [Act.put, List.setIfInBounds_toArray, List.set_cons_zero, List.set_cons_succ, i64_w, i32_w]
              rfl
            refine one_ (i := 2) (N := some 11) #[true, true, true, false, false] rfl rfl (by kernel_rfl) (by decide) (fun K hK => ?_)
            refine goes_ Try.func150 (by kernel_rfl) rfl #[.int .i64 a2] (by rfl) rfl rfl (by (try simp only [List.map_toArray, List.map_cons, List.map_nil]); first | done | rfl | (simp only [List.length_drop, List.length_take]; rfl)) ?_
            with_reducible refine (impl_propOf.calls a2 t98002 _ A4.out).mono ?_
            rintro e w25 ⟨rfl, hb⟩
            refine ⟨_, rfl, ?_⟩
            have n0_ := Aside0.mk (blk_below (g := gb98001) (o := .cells #[.slice A0_0 l0_0.length c0_0, .slice A0_1 l0_1.length c0_1, .int .i64 a0_2] 66 (0, 0)) (by (with_reducible repeat (first | refine blk_drewN ?_ _ | refine blk_drew ?_ | refine blk_alloc ?_ _)); exact BK98001.out) hb)
            have n1_ := Aside0.mk (below_step (by repeat (first | (with_reducible first | exact HB.out | apply below_alloc | apply pw_below_drewN | apply below_drew1 | refine below_set ?_ GE98001.out) | exact HB.out)) hb)
            clear BK98001
            clear HB
            have BK98001 := n0_
            have HB := n1_
            clear n0_ n1_
            (try clear hb)
            (try clear hb2)
            (try clear hk)
            (try clear hi)
            refine hK.out _ _ ⟨(blk_cell BK98001.out 0).trans rfl, (blk_cell BK98001.out 1).trans rfl, (blk_cell BK98001.out 2).trans rfl⟩ (fun hHeld => ?_)
            clear hK K
            refine norm_ (a' := ?_) ?_ ?_
            rotate_left
            · show Act.put _ (some 11) _ = _
              simp only [Act.put, List.setIfInBounds_toArray, List.set_cons_zero, List.set_cons_succ, i64_w, i32_w]
              rfl
            refine one_ (i := 3) (N := some 12) #[true, true, true, true, false] rfl rfl (by kernel_rfl) (by decide) (fun K hK => ?_)
            refine goes_ Try.func102 (by kernel_rfl) rfl #[.agg #[.slice A0_0 l0_0.length c0_0, .slice A0_1 l0_1.length c0_1, .int .i64 a0_2], .int .i64 t98002] (by rfl) rfl rfl (by (try simp only [List.map_toArray, List.map_cons, List.map_nil]); first | done | rfl | (simp only [List.length_drop, List.length_take]; rfl)) ?_
            with_reducible refine (impl_watcher.calls _ _ l0_0 _ _ l0_1 a0_2 t98002 t98003 _ ?side1 ?side2 ?side3 ?side4 A5.out).mono ?_
            (case side1 => repeat (first | exact (Kd.C_below HR0_0.out HB.out) | (with_reducible refine Kd.C_alloc ?_ _) | (with_reducible refine Kd.C_drewN ?_ _) | (with_reducible refine Kd.C_drew ?_)))
            (case side2 => exact HC0_0.out)
            (case side3 => repeat (first | exact (Kd.C_below HR0_1.out HB.out) | (with_reducible refine Kd.C_alloc ?_ _) | (with_reducible refine Kd.C_drewN ?_ _) | (with_reducible refine Kd.C_drew ?_)))
            (case side4 => exact HC0_1.out)
            rintro e w26 ⟨rfl, hb⟩
            refine ⟨_, rfl, ?_⟩
            have n0_ := Aside0.mk (blk_below (g := gb98001) (o := .cells #[.slice A0_0 l0_0.length c0_0, .slice A0_1 l0_1.length c0_1, .int .i64 a0_2] 66 (0, 0)) (by (with_reducible repeat (first | refine blk_drewN ?_ _ | refine blk_drew ?_ | refine blk_alloc ?_ _)); exact BK98001.out) hb)
            have n1_ := Aside0.mk (below_step (by repeat (first | (with_reducible first | exact HB.out | apply below_alloc | apply pw_below_drewN | apply below_drew1 | refine below_set ?_ GE98001.out) | exact HB.out)) hb)
            clear BK98001
            clear HB
            have BK98001 := n0_
            have HB := n1_
            clear n0_ n1_
            (try clear hb)
            (try clear hb2)
            (try clear hk)
            (try clear hi)
            refine hK.out _ _ ⟨(blk_cell BK98001.out 0).trans rfl, (blk_cell BK98001.out 1).trans rfl, (blk_cell BK98001.out 2).trans rfl⟩ (fun hHeld => ?_)
            clear hK K
            refine norm_ (a' := ?_) ?_ ?_
            rotate_left
            · show Act.put _ (some 12) _ = _
              simp only [Act.put, List.setIfInBounds_toArray, List.set_cons_zero, List.set_cons_succ, i64_w, i32_w]
              rfl
            refine pure_ (i := 4) (N := some 7) (v := ?_) (a' := ?_) #[true, true, true, true, true] rfl rfl (by kernel_rfl) (fun _ _ _ h => h) (Or.inl ⟨by rfl, ?_⟩) ?_ ?_
            rotate_left
            · intro w'
              go_simp
              with_reducible rfl
            rotate_left
            · simp only [Act.put, List.setIfInBounds_toArray, List.set_cons_zero, List.set_cons_succ, i64_w, i32_w]
              rfl
            refine done_ (by kernel_rfl) ?_
            have hcz27_0 : w26.cell? ⟨gb98001, 0, none⟩ = some (.slice A0_0 l0_0.length c0_0) := (blk_cell BK98001.out 0).trans rfl
            have hcz27_1 : w26.cell? ⟨gb98001, 1, none⟩ = some (.slice A0_1 l0_1.length c0_1) := (blk_cell BK98001.out 1).trans rfl
            have hcz27_2 : w26.cell? ⟨gb98001, 2, none⟩ = some (.int .i64 a0_2) := (blk_cell BK98001.out 2).trans rfl
            have hfz27_0 := blk_frozen BK98001.out 0
            have hfz27_1 := blk_frozen BK98001.out 1
            have hfz27_2 := blk_frozen BK98001.out 2
            have p98004 : 0 ≤ (t98003 : Int) := of_decide_eq_true (by first | (with_reducible assumption) | assumption)
            have q98004 : t98003 < (l0_0.length : Int) := of_decide_eq_true (by first | (with_reducible assumption) | assumption)
            obtain ⟨ad98004, A98004_1, c98004_1, e98004, hx98004_0, hx98004_1, hx98004_2, hl98004_1, hi98004_1⟩ := at_T120 HR0_0.out t98003 p98004 q98004
            cases e98004
            replace hx98004_0 := (HB.out.cell (World.block_lt_of_cell? w _ hx98004_0)).trans hx98004_0
            replace hx98004_1 := (HB.out.cell (World.block_lt_of_cell? w _ hx98004_1)).trans hx98004_1
            replace hx98004_2 := (HB.out.cell (World.block_lt_of_cell? w _ hx98004_2)).trans hx98004_2
            have HR98004_1 := Aside0.mk hi98004_1
            have HC98004_1 := Aside0.mk hl98004_1
            clear hi98004_1 hl98004_1
            replace p98004 := eq_true p98004
            replace q98004 := eq_true q98004
            try go_wp2_with (first | ((with_reducible refine gate_callee (f := 151) rfl ?_); refine goesL_ (some 23) rfl rfl Try.func151 (by kernel_rfl) rfl #[.slice A98004_1 ((rd_T120 l0_0 t98003).f1).length c98004_1, .int .i64 a2] rfl (by (try simp only [List.map_toArray, List.map_cons, List.map_nil]); first | done | rfl | (simp only [List.length_drop, List.length_take]; rfl)) ?_; (with_reducible refine (slices_Contains_int_int.calls _ _ ((rd_T120 l0_0 t98003).f1) a2 false _ ?side1 ?side2 A13.out).mono ?_); (case side1 => repeat (first | exact (Kd.C_below HR98004_1.out HB.out) | (with_reducible refine Kd.C_alloc ?_ _) | (with_reducible refine Kd.C_drewN ?_ _) | (with_reducible refine Kd.C_drew ?_))); (case side2 => exact HC98004_1.out); rintro e w28 ⟨rfl, hb⟩; refine ⟨_, rfl, ?_⟩; have n0_ := Aside0.mk (blk_below (g := gb98001) (o := .cells #[.slice (some ad98004) l0_0.length c0_0, .slice A0_1 l0_1.length c0_1, .int .i64 a0_2] 66 (0, 0)) (by (with_reducible repeat (first | refine blk_drewN ?_ _ | refine blk_drew ?_ | refine blk_alloc ?_ _)); exact BK98001.out) hb); have n1_ := Aside0.mk (below_step (by repeat (first | (with_reducible first | exact HB.out | apply below_alloc | apply pw_below_drewN | apply below_drew1 | refine below_set ?_ GE98001.out) | exact HB.out)) hb); clear BK98001; clear HB; have BK98001 := n0_; have HB := n1_; clear n0_ n1_; (try clear hb); (try clear hb2); (try clear hk); (try clear hi)) | (go_at_call 151; (with_reducible refine (slices_Contains_int_int.calls _ _ ((rd_T120 l0_0 t98003).f1) (wrap64 (-a2)) true _ ?side1 ?side2 A21.out).mono ?_); (case side1 => repeat (first | exact (Kd.C_below HR98004_1.out HB.out) | (with_reducible refine Kd.C_alloc ?_ _) | (with_reducible refine Kd.C_drewN ?_ _) | (with_reducible refine Kd.C_drew ?_))); (case side2 => exact HC98004_1.out); rintro e w29 ⟨rfl, hb⟩; have n0_ := Aside0.mk (blk_below (g := gb98001) (o := .cells #[.slice (some ad98004) l0_0.length c0_0, .slice A0_1 l0_1.length c0_1, .int .i64 a0_2] 66 (0, 0)) (by (with_reducible repeat (first | refine blk_drewN ?_ _ | refine blk_drew ?_ | refine blk_alloc ?_ _)); exact BK98001.out) hb); have n1_ := Aside0.mk (below_step (by repeat (first | (with_reducible first | exact HB.out | apply below_alloc | apply pw_below_drewN | apply below_drew1 | refine below_set ?_ GE98001.out) | exact HB.out)) hb); clear BK98001; clear HB; have BK98001 := n0_; have HB := n1_; clear n0_ n1_; (try clear hb); (try clear hb2); (try clear hk); (try clear hi)))
            go_ret
            exact ⟨by first | rfl | (simp [errW_none, errW_some] <;> rfl) | (simp [*, errW_none, errW_some] <;> rfl), by repeat (first | (with_reducible first | exact HB.out | apply below_alloc | apply pw_below_drewN | apply below_drew1 | refine below_set ?_ GE98001.out) | exact HB.out)⟩
          · replace c22 := Bool.eq_false_iff.mpr c22
            subst c22
            have H1 : ((impl_ImpliesLabel.f k l1 ((rd_T120 l0_0 t98003).f1)).bind fun t98007 => (some t98007)) = some r := by rw [if_neg (show ¬ (false = true) by decide)] at H; exact H
            clear H
            have H := H1
            clear H1
            replace H := Option.bind_eq_some_iff.mp H
            obtain ⟨t98007, A300, H⟩ := H
            replace H : (some t98007) = some r := H
            have A30 := Aside0.mk A300
            clear A300
            obtain rfl := Option.some.inj H
            go_enter Try.func98, Try.ntmps98
            try go_wp2_with (first | ((with_reducible refine gate_dst (N := 3) rfl ?_); refine box_event ?hg (N := 3) ?hd (cs := #[.slice A0_0 l0_0.length c0_0, .slice A0_1 l0_1.length c0_1, .int .i64 a0_2]) (t := 66) ?hr ?_; (case hd => rfl); (case hg => rfl); (case hr => first | (go_simp; done) | (go_simp; rfl)); intro gb98001 hg w31 hbox hb; have n0_ := Aside0.mk (below_step (by repeat (first | (with_reducible first | exact HB.out | apply below_alloc | apply pw_below_drewN | apply below_drew1) | exact HB.out)) hb); have n1_ := Aside0.mk (hbox); have n2_ := Aside0.mk ((by rw [hg]; exact (below_size (by repeat (first | (with_reducible first | exact HB.out | apply below_alloc | apply pw_below_drewN | apply below_drew1) | exact HB.out))) : w.heap.size ≤ gb98001)); have n3_ := Aside0.mk ((by rw [hg]; exact (below_size (by repeat (first | (with_reducible first | exact HB.out | apply below_alloc | apply pw_below_drewN | apply below_drew1) | exact HB.out))) : w.heap.size ≤ gb98001)); clear HB; have HB := n0_; have BK98001 := n1_; have GW98001 := n2_; have GE98001 := n3_; clear n0_ n1_ n2_ n3_; clear hb hbox hg))
            have n0_ := Aside0.mk (blk_drew BK98001.out)
            have n1_ := Aside0.mk (below_drew1 HB.out)
            clear BK98001
            clear HB
            have BK98001 := n0_
            have HB := n1_
            clear n0_ n1_
            refine start_ (n := 5) (S := fun w' => w'.cell? ⟨gb98001, 0, none⟩ = some (.slice A0_0 l0_0.length c0_0) ∧ w'.cell? ⟨gb98001, 1, none⟩ = some (.slice A0_1 l0_1.length c0_1) ∧ w'.cell? ⟨gb98001, 2, none⟩ = some (.int .i64 a0_2)) (ds := []) #[false, false, false, false, false] (by kernel_rfl) rfl rfl ⟨(blk_cell BK98001.out 0).trans rfl, (blk_cell BK98001.out 1).trans rfl, (blk_cell BK98001.out 2).trans rfl⟩ (fun hHeld => ?_)
            generalize w31.drew = w32 at BK98001 HB hHeld ⊢
            refine pure_ (i := 1) (N := some 10) (v := ?_) (a' := ?_) #[false, true, false, false, false] rfl rfl (by kernel_rfl) (fun _ _ _ h => h) (Or.inl ⟨by rfl, ?_⟩) ?_ ?_
            rotate_left
            · intro w'
              go_simp
              with_reducible rfl
            rotate_left
            · simp only [Act.put, List.setIfInBounds_toArray, List.set_cons_zero, List.set_cons_succ, i64_w, i32_w]
              rfl
            refine take_ (i := 0) (N := some 9) (v := ?_) (a' := ?_) #[true, true, false, false, false] rfl rfl (by kernel_rfl) (fun _ _ _ h => h) (Or.inl ⟨by rfl, ?_⟩) hHeld ?_ ?_
            rotate_left
            · rintro w' ⟨s0, s1, s2⟩
              go_simp
              with_reducible rfl
            rotate_left
            · simp only [Act.put, List.setIfInBounds_toArray, List.set_cons_zero, List.set_cons_succ, i64_w, i32_w]
              rfl
            refine one_ (i := 2) (N := some 11) #[true, true, true, false, false] rfl rfl (by kernel_rfl) (by decide) (fun K hK => ?_)
            refine goes_ Try.func150 (by kernel_rfl) rfl #[.int .i64 a2] (by rfl) rfl rfl (by (try simp only [List.map_toArray, List.map_cons, List.map_nil]); first | done | rfl | (simp only [List.length_drop, List.length_take]; rfl)) ?_
            with_reducible refine (impl_propOf.calls a2 t98002 _ A4.out).mono ?_
            rintro e w33 ⟨rfl, hb⟩
            refine ⟨_, rfl, ?_⟩
            have n0_ := Aside0.mk (blk_below (g := gb98001) (o := .cells #[.slice A0_0 l0_0.length c0_0, .slice A0_1 l0_1.length c0_1, .int .i64 a0_2] 66 (0, 0)) (by (with_reducible repeat (first | refine blk_drewN ?_ _ | refine blk_drew ?_ | refine blk_alloc ?_ _)); exact BK98001.out) hb)
            have n1_ := Aside0.mk (below_step (by repeat (first | (with_reducible first | exact HB.out | apply below_alloc | apply pw_below_drewN | apply below_drew1 | refine below_set ?_ GE98001.out) | exact HB.out)) hb)
            clear BK98001
            clear HB
            have BK98001 := n0_
            have HB := n1_
            clear n0_ n1_
            (try clear hb)
            (try clear hb2)
            (try clear hk)
            (try clear hi)
            refine hK.out _ _ ⟨(blk_cell BK98001.out 0).trans rfl, (blk_cell BK98001.out 1).trans rfl, (blk_cell BK98001.out 2).trans rfl⟩ (fun hHeld => ?_)
            clear hK K
            refine norm_ (a' := ?_) ?_ ?_
            rotate_left
            · show Act.put _ (some 11) _ = _
              simp only [Act.put, List.setIfInBounds_toArray, List.set_cons_zero, List.set_cons_succ, i64_w, i32_w]
              rfl
            refine one_ (i := 3) (N := some 12) #[true, true, true, true, false] rfl rfl (by kernel_rfl) (by decide) (fun K hK => ?_)
            refine goes_ Try.func102 (by kernel_rfl) rfl #[.agg #[.slice A0_0 l0_0.length c0_0, .slice A0_1 l0_1.length c0_1, .int .i64 a0_2], .int .i64 t98002] (by rfl) rfl rfl (by (try simp only [List.map_toArray, List.map_cons, List.map_nil]); first | done | rfl | (simp only [List.length_drop, List.length_take]; rfl)) ?_
            with_reducible refine (impl_watcher.calls _ _ l0_0 _ _ l0_1 a0_2 t98002 t98003 _ ?side1 ?side2 ?side3 ?side4 A5.out).mono ?_
            (case side1 => repeat (first | exact (Kd.C_below HR0_0.out HB.out) | (with_reducible refine Kd.C_alloc ?_ _) | (with_reducible refine Kd.C_drewN ?_ _) | (with_reducible refine Kd.C_drew ?_)))
            (case side2 => exact HC0_0.out)
            (case side3 => repeat (first | exact (Kd.C_below HR0_1.out HB.out) | (with_reducible refine Kd.C_alloc ?_ _) | (with_reducible refine Kd.C_drewN ?_ _) | (with_reducible refine Kd.C_drew ?_)))
            (case side4 => exact HC0_1.out)
            rintro e w34 ⟨rfl, hb⟩
            refine ⟨_, rfl, ?_⟩
            have n0_ := Aside0.mk (blk_below (g := gb98001) (o := .cells #[.slice A0_0 l0_0.length c0_0, .slice A0_1 l0_1.length c0_1, .int .i64 a0_2] 66 (0, 0)) (by (with_reducible repeat (first | refine blk_drewN ?_ _ | refine blk_drew ?_ | refine blk_alloc ?_ _)); exact BK98001.out) hb)
            have n1_ := Aside0.mk (below_step (by repeat (first | (with_reducible first | exact HB.out | apply below_alloc | apply pw_below_drewN | apply below_drew1 | refine below_set ?_ GE98001.out) | exact HB.out)) hb)
            clear BK98001
            clear HB
            have BK98001 := n0_
            have HB := n1_
            clear n0_ n1_
            (try clear hb)
            (try clear hb2)
            (try clear hk)
            (try clear hi)
            refine hK.out _ _ ⟨(blk_cell BK98001.out 0).trans rfl, (blk_cell BK98001.out 1).trans rfl, (blk_cell BK98001.out 2).trans rfl⟩ (fun hHeld => ?_)
            clear hK K
            refine norm_ (a' := ?_) ?_ ?_
            rotate_left
            · show Act.put _ (some 12) _ = _
              simp only [Act.put, List.setIfInBounds_toArray, List.set_cons_zero, List.set_cons_succ, i64_w, i32_w]
              rfl
            refine pure_ (i := 4) (N := some 7) (v := ?_) (a' := ?_) #[true, true, true, true, true] rfl rfl (by kernel_rfl) (fun _ _ _ h => h) (Or.inl ⟨by rfl, ?_⟩) ?_ ?_
            rotate_left
            · intro w'
              go_simp
              with_reducible rfl
            rotate_left
            · simp only [Act.put, List.setIfInBounds_toArray, List.set_cons_zero, List.set_cons_succ, i64_w, i32_w]
              rfl
            refine done_ (by kernel_rfl) ?_
            have hcz35_0 : w34.cell? ⟨gb98001, 0, none⟩ = some (.slice A0_0 l0_0.length c0_0) := (blk_cell BK98001.out 0).trans rfl
            have hcz35_1 : w34.cell? ⟨gb98001, 1, none⟩ = some (.slice A0_1 l0_1.length c0_1) := (blk_cell BK98001.out 1).trans rfl
            have hcz35_2 : w34.cell? ⟨gb98001, 2, none⟩ = some (.int .i64 a0_2) := (blk_cell BK98001.out 2).trans rfl
            have hfz35_0 := blk_frozen BK98001.out 0
            have hfz35_1 := blk_frozen BK98001.out 1
            have hfz35_2 := blk_frozen BK98001.out 2
            have p98004 : 0 ≤ (t98003 : Int) := of_decide_eq_true (by first | (with_reducible assumption) | assumption)
            have q98004 : t98003 < (l0_0.length : Int) := of_decide_eq_true (by first | (with_reducible assumption) | assumption)
            obtain ⟨ad98004, A98004_1, c98004_1, e98004, hx98004_0, hx98004_1, hx98004_2, hl98004_1, hi98004_1⟩ := at_T120 HR0_0.out t98003 p98004 q98004
            cases e98004
            replace hx98004_0 := (HB.out.cell (World.block_lt_of_cell? w _ hx98004_0)).trans hx98004_0
            replace hx98004_1 := (HB.out.cell (World.block_lt_of_cell? w _ hx98004_1)).trans hx98004_1
            replace hx98004_2 := (HB.out.cell (World.block_lt_of_cell? w _ hx98004_2)).trans hx98004_2
            have HR98004_1 := Aside0.mk hi98004_1
            have HC98004_1 := Aside0.mk hl98004_1
            clear hi98004_1 hl98004_1
            replace p98004 := eq_true p98004
            replace q98004 := eq_true q98004
            try go_wp2_with (first | ((with_reducible refine gate_callee (f := 151) rfl ?_); refine goesL_ (some 23) rfl rfl Try.func151 (by kernel_rfl) rfl #[.slice A98004_1 ((rd_T120 l0_0 t98003).f1).length c98004_1, .int .i64 a2] rfl (by (try simp only [List.map_toArray, List.map_cons, List.map_nil]); first | done | rfl | (simp only [List.length_drop, List.length_take]; rfl)) ?_; (with_reducible refine (slices_Contains_int_int.calls _ _ ((rd_T120 l0_0 t98003).f1) a2 false _ ?side1 ?side2 A13.out).mono ?_); (case side1 => repeat (first | exact (Kd.C_below HR98004_1.out HB.out) | (with_reducible refine Kd.C_alloc ?_ _) | (with_reducible refine Kd.C_drewN ?_ _) | (with_reducible refine Kd.C_drew ?_))); (case side2 => exact HC98004_1.out); rintro e w36 ⟨rfl, hb⟩; refine ⟨_, rfl, ?_⟩; have n0_ := Aside0.mk (blk_below (g := gb98001) (o := .cells #[.slice (some ad98004) l0_0.length c0_0, .slice A0_1 l0_1.length c0_1, .int .i64 a0_2] 66 (0, 0)) (by (with_reducible repeat (first | refine blk_drewN ?_ _ | refine blk_drew ?_ | refine blk_alloc ?_ _)); exact BK98001.out) hb); have n1_ := Aside0.mk (below_step (by repeat (first | (with_reducible first | exact HB.out | apply below_alloc | apply pw_below_drewN | apply below_drew1 | refine below_set ?_ GE98001.out) | exact HB.out)) hb); clear BK98001; clear HB; have BK98001 := n0_; have HB := n1_; clear n0_ n1_; (try clear hb); (try clear hb2); (try clear hk); (try clear hi)) | (go_at_call 151; (with_reducible refine (slices_Contains_int_int.calls _ _ ((rd_T120 l0_0 t98003).f1) (wrap64 (-a2)) false _ ?side1 ?side2 A21.out).mono ?_); (case side1 => repeat (first | exact (Kd.C_below HR98004_1.out HB.out) | (with_reducible refine Kd.C_alloc ?_ _) | (with_reducible refine Kd.C_drewN ?_ _) | (with_reducible refine Kd.C_drew ?_))); (case side2 => exact HC98004_1.out); rintro e w37 ⟨rfl, hb⟩; have n0_ := Aside0.mk (blk_below (g := gb98001) (o := .cells #[.slice (some ad98004) l0_0.length c0_0, .slice A0_1 l0_1.length c0_1, .int .i64 a0_2] 66 (0, 0)) (by (with_reducible repeat (first | refine blk_drewN ?_ _ | refine blk_drew ?_ | refine blk_alloc ?_ _)); exact BK98001.out) hb); have n1_ := Aside0.mk (below_step (by repeat (first | (with_reducible first | exact HB.out | apply below_alloc | apply pw_below_drewN | apply below_drew1 | refine below_set ?_ GE98001.out) | exact HB.out)) hb); clear BK98001; clear HB; have BK98001 := n0_; have HB := n1_; clear n0_ n1_; (try clear hb); (try clear hb2); (try clear hk); (try clear hi)) | (go_at_call 152; (with_reducible refine (impl_ImpliesLabel.calls k _ _ l1 _ _ ((rd_T120 l0_0 t98003).f1) t98007 _ ?side1 ?side2 ?side3 ?side4 A30.out).mono ?_); (case side1 => repeat (first | exact (Kd.C_below HR1.out HB.out) | (with_reducible refine Kd.C_alloc ?_ _) | (with_reducible refine Kd.C_drewN ?_ _) | (with_reducible refine Kd.C_drew ?_))); (case side2 => exact HC1.out); (case side3 => repeat (first | exact (Kd.C_below HR98004_1.out HB.out) | (with_reducible refine Kd.C_alloc ?_ _) | (with_reducible refine Kd.C_drewN ?_ _) | (with_reducible refine Kd.C_drew ?_))); (case side4 => exact HC98004_1.out); rintro e w38 ⟨rfl, hb⟩; have n0_ := Aside0.mk (blk_below (g := gb98001) (o := .cells #[.slice (some ad98004) l0_0.length c0_0, .slice A0_1 l0_1.length c0_1, .int .i64 a0_2] 66 (0, 0)) (by (with_reducible repeat (first | refine blk_drewN ?_ _ | refine blk_drew ?_ | refine blk_alloc ?_ _)); exact BK98001.out) hb); have n1_ := Aside0.mk (below_step (by repeat (first | (with_reducible first | exact HB.out | apply below_alloc | apply pw_below_drewN | apply below_drew1 | refine below_set ?_ GE98001.out) | exact HB.out)) hb); clear BK98001; clear HB; have BK98001 := n0_; have HB := n1_; clear n0_ n1_; (try clear hb); (try clear hb2); (try clear hk); (try clear hi)))
            go_ret
            exact ⟨by first | rfl | (simp [errW_none, errW_some] <;> rfl) | (simp [*, errW_none, errW_some] <;> rfl), by repeat (first | (with_reducible first | exact HB.out | apply below_alloc | apply pw_below_drewN | apply below_drew1 | refine below_set ?_ GE98001.out) | exact HB.out)⟩
      · rw [if_neg c12] at H
        exact absurd H (by simp)
    · rw [if_neg c11] at H
      exact absurd H (by simp)

end Go.Proofs.Ytpoffpdaadhkgaa.Pr

namespace Go.Proofs.Ytpoffpdaadhkgaa.Pr
open Go.RowKit Go.Proofs.YtpoffpdaadhkgaaW.PrintWords Go.Proofs.Ytpoffpdaadhkgaa.Ni
def watchedC (ns : List PNode) (lb : List Int) (x w : Int) : Bool :=
  decide (0 ≤ w) && !((rd_T120 ns w).f1.any fun y => decide (x = y)) && !((rd_T120 ns w).f1.any fun y => decide (-x = y)) && impB lb (rd_T120 ns w).f1
def watchedB (ns : List PNode) (lb : List Int) (x : Int) : Bool := watchedC ns lb x (pwatchI ns (prp x))
theorem isWatched_f (ns : List PNode) (ts : List PTie) (z : Int) (lb : List Int) (x : Int) (hb : ∀ n ∈ ns, n.f1.length ≤ 9223372036854775807) (hl : lb.length ≤ 9223372036854775807) (hx : litOk x = true) (k : Nat) (hk : 2 ^ 64 ≤ k) :
    impl_isWatched.f k ns ts z lb x = some (watchedB ns lb x) := by
  have hx3 := (litOk_iff x).1 hx
  have hbd := idxOf_bd (fun n : PNode => decide (0 < prp x) && decide (n.f2 = prp x)) ns
  unfold impl_isWatched.f
  rw [propOf_f hx, Option.bind_some]
  unfold impl_watcher.f watchedB watchedC
  rw [Option.bind_some]
  have hbd' : -1 ≤ pwatchI ns (prp x) ∧ pwatchI ns (prp x) < ns.length := hbd
  generalize pwatchI ns (prp x) = w at hbd' ⊢
  by_cases h : w < 0
  · rw [if_pos h, decide_eq_false (show ¬ 0 ≤ w by omega)]; rfl
  · rw [if_neg h, if_pos (by omega), if_pos (by omega), decide_eq_true (show 0 ≤ w by omega)]
    have hm : (rd_T120 ns w).f1.length ≤ 9223372036854775807 := by
      obtain ⟨n, rfl⟩ := Int.eq_ofNat_of_zero_le (show 0 ≤ w by omega)
      rw [show rd_T120 ns (n : Int) = ns.getD n z120 from rdN_nat ns n]
      exact hb _ (getD_mem (by omega) _)
    unfold slices_Contains_int_int.f
    rw [Option.bind_some, wrap_id (i := -x) (by omega) (by omega), impl_ImpliesLabel_f lb _ hl hm k hk]
    simp only [Option.bind_some, Bool.true_and]
    cases (rd_T120 ns w).f1.any fun y => decide (x = y)
    · cases (rd_T120 ns w).f1.any fun y => decide (-x = y)
      · simp
      · rfl
    · rfl
end Go.Proofs.Ytpoffpdaadhkgaa.Pr

namespace Go.Proofs.Ytpoffpdaadhkgaa.Pr
open Go.RowKit Go.Proofs.YtpoffpdaadhkgaaW.PrintWords Go.Proofs.YtpoffpdaadhkgaaW.PrintLast Go.Proofs.YtpoffpdaadhkgaaW.PrintMore
attribute [local go_sem] max2_int min2_int max_two min_two max_three min_three max_four min_four
set_option linter.unusedVariables false
set_option linter.unusedSimpArgs false

/-! ### impl_isSpan: function 146 -/
def impl_isSpan.f (a0 : Int) : Option (Bool) := if a0 ≥ (-20) then (some (decide (a0 ≤ 20))) else (some false)
set_option maxHeartbeats 8000000 in
set_option maxRecDepth 100000 in
theorem impl_isSpan.calls (a0 : Int) (r : Bool) (w : World) (h : impl_isSpan.f a0 = some r) :
    Calls Try.prog 146 #[.int .i64 a0] w fun e w' => e = .returned (.bool r) ∧ Drawn0 w w' := by
  have H : (if a0 ≥ (-20) then (some (decide (a0 ≤ 20))) else (some false)) = some r := h
  clear h
  by_cases c2 : a0 ≥ (-20)
  · rw [if_pos c2] at H
    have c2b0 : decide ((-20) ≤ a0) = true := decide_eq_true c2
    clear c2
    obtain rfl := Option.some.inj H
    go_enter Try.func146, Try.ntmps146
    go_wp2
    go_ret
    exact ⟨by first | rfl | (simp; done) | (simp [*]; done), by repeat (first | exact Drawn0.refl _ | apply Drawn0.step)⟩
  · rw [if_neg c2] at H
    have c2b0 : decide ((-20) ≤ a0) = false := decide_eq_false c2
    clear c2
    obtain rfl := Option.some.inj H
    go_enter Try.func146, Try.ntmps146
    go_wp2
    go_ret
    exact ⟨by first | rfl | (simp; done) | (simp [*]; done), by repeat (first | exact Drawn0.refl _ | apply Drawn0.step)⟩

end Go.Proofs.Ytpoffpdaadhkgaa.Pr

namespace Go.Proofs.Ytpoffpdaadhkgaa.Pr
open Go.RowKit Go.Proofs.YtpoffpdaadhkgaaW.PrintWords Go.Proofs.YtpoffpdaadhkgaaW.PrintLast Go.Proofs.YtpoffpdaadhkgaaW.PrintMore
attribute [local go_sem] max2_int min2_int max_two min_two max_three min_three max_four min_four
set_option linter.unusedVariables false
set_option linter.unusedSimpArgs false

/-! ### impl_Tie_157: function 157 (by hand) -/
-- IMPORT Derived.Deep.LoopGhost
-- IMPORT Derived.Shelf.Abstract
-- IMPORT Derived.Test.YtpoffpdaadhkgaaQNice
open Go.Proofs.Ytpoffpdaadhkgaa.Ni
set_option maxHeartbeats 4000000 in
theorem impl_Tie_157.any (p : S126 → Bool) (g : Nat) (lb : Array Value) (eg : ∀ args w, (callFunc g args).run Try.prog w = .ok (.enter g args) w) (A0 : Option Addr) (c0 : Nat) (l0 : List S126) (w : World) (hr0 : Kd.C k126 w A0 l0.length l0)
    (hp : ∀ (W : World) (x : S126), x ∈ l0 → Below w.heap.size w W → Calls Try.prog g (#[.agg #[.int .i64 x.f0, .int .i64 x.f1, .int .i64 x.f2, .int .i64 x.f3, .bool x.f4]] ++ lb) W fun e w' => e = .returned (.bool (p x)) ∧ Below W.heap.size W w') :
    Calls Try.prog 157 #[.slice A0 l0.length c0, .func (.func g) #[] lb] w fun e w' => e = .returned (.int .i64 (idxOf p l0)) ∧ Below w.heap.size w w' := by
  have HR0 := Aside0.mk hr0
  have HP := Aside0.mk hp
  clear hr0 hp
  have HL : l0.length ≤ 9223372036854775807 := HR0.out.2.1
  go_enter Try.func157, Try.ntmps157
  go_wp2
  go_loopg [5, 8] l0.length (fun gg _ s8 wr => ∃ kk : Nat, Aside0 (kk ≤ l0.length) ∧ Aside0 (l0.length - kk ≤ gg) ∧ s8 = .int .i64 kk ∧ Aside0 (Below w.heap.size w wr) ∧ Aside0 (∀ j y, j < kk → l0[j]? = some y → p y = false))
  case atStart => exact ⟨0, ⟨Nat.zero_le _⟩, ⟨by omega⟩, rfl, ⟨Below.refl _ _⟩, ⟨fun j y hj => absurd hj (Nat.not_lt_zero _)⟩⟩
  case round =>
    obtain ⟨kk, HK, HG, rfl, HB, HN⟩ := hrel
    by_cases hlt : kk < l0.length
    · have hltz : (kk : Int) < (l0.length : Int) := by omega
      obtain ⟨ad, e1, hx0, hx1, hx2, hx3, hx4⟩ := at_T126 HR0.out (kk : Int) (by omega) hltz
      cases e1
      replace hx0 := (HB.out.cell (World.block_lt_of_cell? w _ hx0)).trans hx0
      rw [Int.toNat_natCast] at hx0
      replace hx1 := (HB.out.cell (World.block_lt_of_cell? w _ hx1)).trans hx1
      rw [Int.toNat_natCast] at hx1
      replace hx2 := (HB.out.cell (World.block_lt_of_cell? w _ hx2)).trans hx2
      rw [Int.toNat_natCast] at hx2
      replace hx3 := (HB.out.cell (World.block_lt_of_cell? w _ hx3)).trans hx3
      rw [Int.toNat_natCast] at hx3
      replace hx4 := (HB.out.cell (World.block_lt_of_cell? w _ hx4)).trans hx4
      rw [Int.toNat_natCast] at hx4
      have hxe : l0[kk]? = some (rd_T126 l0 (kk : Int)) := by
        unfold rd_T126
        rw [Int.toNat_natCast, List.getD_eq_getElem?_getD, List.getElem?_eq_getElem hlt]; rfl

      generalize rd_T126 l0 (kk : Int) = y at hx0 hx1 hx2 hx3 hx4 hxe
      have HX := Aside0.mk hxe
      clear hxe
      have hcall := HP.out wr y (List.mem_of_getElem? HX.out) HB.out

      cases hq : p y with
      | true =>
        have HQ := Aside0.mk hq
        rw [hq] at hcall
        clear hq
        go_wp2_with (go_at_fn g; refine hcall.mono ?_; rintro e w' ⟨rfl, hb⟩)
        go_ret
        exact ⟨by rw [idxOf_hit p l0 kk y HX.out HQ.out HN.out]; rfl, HB.out.trans (hb.mono HB.out.size)⟩
      | false =>
        have HQ := Aside0.mk hq
        rw [hq] at hcall
        clear hq
        go_wp2_with (go_at_fn g; refine hcall.mono ?_; rintro e w' ⟨rfl, hb⟩)
        go_roundg (l0.length - (kk + 1))
        case measure => have := HG.out; omega
        case rel =>
          refine ⟨kk + 1, ⟨by omega⟩, ⟨by omega⟩, by go_num, ⟨HB.out.trans (hb.mono HB.out.size)⟩, ⟨fun j y' hj hy => ?_⟩⟩
          by_cases e : j = kk
          · subst e
            rw [HX.out] at hy
            cases hy
            exact HQ.out
          · exact HN.out j y' (by omega) hy
    · have hltz : ¬ (kk : Int) < (l0.length : Int) := by omega
      have : kk = l0.length := by have := HK.out; omega
      subst this
      go_wp2
      go_ret
      exact ⟨by rw [idxOf_miss p l0 HN.out]; rfl, HB.out⟩

end Go.Proofs.Ytpoffpdaadhkgaa.Pr

namespace Go.Proofs.Ytpoffpdaadhkgaa.Pr
open Go.RowKit Go.Proofs.YtpoffpdaadhkgaaW.PrintWords Go.Proofs.YtpoffpdaadhkgaaW.PrintLast Go.Proofs.YtpoffpdaadhkgaaW.PrintMore
attribute [local go_sem] max2_int min2_int max_two min_two max_three min_three max_four min_four
set_option linter.unusedVariables false
set_option linter.unusedSimpArgs false

/-! ### impl_Tie_148: function 148 (by hand) -/
-- IMPORT Derived.Test.YtpoffpdaadhkgaaQNice
open Go.Proofs.Ytpoffpdaadhkgaa.Ni
set_option maxHeartbeats 4000000 in
theorem impl_Tie_148.any (p : S126 → Bool) (g : Nat) (lb : Array Value) (eg : ∀ args w, (callFunc g args).run Try.prog w = .ok (.enter g args) w) (A0 : Option Addr) (c0 : Nat) (l0 : List S126) (w : World) (hr0 : Kd.C k126 w A0 l0.length l0)
    (hp : ∀ (W : World) (x : S126), x ∈ l0 → Below w.heap.size w W → Calls Try.prog g (#[.agg #[.int .i64 x.f0, .int .i64 x.f1, .int .i64 x.f2, .int .i64 x.f3, .bool x.f4]] ++ lb) W fun e w' => e = .returned (.bool (p x)) ∧ Below W.heap.size W w') :
    Calls Try.prog 148 #[.slice A0 l0.length c0, .func (.func g) #[] lb] w fun e w' => e = .returned (.bool (l0.any p)) ∧ Below w.heap.size w w' := by
  have HI := Aside0.mk (impl_Tie_157.any p g lb eg A0 c0 l0 w hr0 hp)
  clear hr0 hp
  have HE := Aside0.mk (idxOf_any p l0)
  go_enter Try.func148, Try.ntmps148
  go_wp2_with (go_at_call 157; refine HI.out.mono ?_; rintro e w' ⟨rfl, hb⟩)
  go_ret
  exact ⟨by rw [← HE.out]; rfl, hb⟩

end Go.Proofs.Ytpoffpdaadhkgaa.Pr

namespace Go.Proofs.Ytpoffpdaadhkgaa.Pr
open Go.RowKit Go.Proofs.YtpoffpdaadhkgaaW.PrintWords Go.Proofs.YtpoffpdaadhkgaaW.PrintLast Go.Proofs.YtpoffpdaadhkgaaW.PrintMore
attribute [local go_sem] max2_int min2_int max_two min_two max_three min_three max_four min_four
set_option linter.unusedVariables false
set_option linter.unusedSimpArgs false

/-! ### impl_isNode: function 71 -/
def impl_isNode.f (a0 : Int) (a1 : Int) : Option (Bool) := if a1 ≥ 0 then (some (decide (a1 < a0))) else (some false)
set_option maxHeartbeats 8000000 in
set_option maxRecDepth 100000 in
theorem impl_isNode.calls (a0 : Int) (a1 : Int) (r : Bool) (w : World) (h : impl_isNode.f a0 a1 = some r) :
    Calls Try.prog 71 #[.int .i64 a0, .int .i64 a1] w fun e w' => e = .returned (.bool r) ∧ Drawn0 w w' := by
  have H : (if a1 ≥ 0 then (some (decide (a1 < a0))) else (some false)) = some r := h
  clear h
  by_cases c3 : a1 ≥ 0
  · rw [if_pos c3] at H
    have c3b0 : decide (0 ≤ a1) = true := decide_eq_true c3
    clear c3
    obtain rfl := Option.some.inj H
    go_enter Try.func71, Try.ntmps71
    go_wp2
    go_ret
    exact ⟨by first | rfl | (simp; done) | (simp [*]; done), by repeat (first | exact Drawn0.refl _ | apply Drawn0.step)⟩
  · rw [if_neg c3] at H
    have c3b0 : decide (0 ≤ a1) = false := decide_eq_false c3
    clear c3
    obtain rfl := Option.some.inj H
    go_enter Try.func71, Try.ntmps71
    go_wp2
    go_ret
    exact ⟨by first | rfl | (simp; done) | (simp [*]; done), by repeat (first | exact Drawn0.refl _ | apply Drawn0.step)⟩

end Go.Proofs.Ytpoffpdaadhkgaa.Pr

namespace Go.Proofs.Ytpoffpdaadhkgaa.Pr
open Go.RowKit Go.Proofs.YtpoffpdaadhkgaaW.PrintWords Go.Proofs.YtpoffpdaadhkgaaW.PrintLast Go.Proofs.YtpoffpdaadhkgaaW.PrintMore
attribute [local go_sem] max2_int min2_int max_two min_two max_three min_three max_four min_four
set_option linter.unusedVariables false
set_option linter.unusedSimpArgs false

/-! ### impl_areTies: function 96 (by hand) -/
open Go.Proofs.Ytpoffpdaadhkgaa.Ni
-- IMPORT Derived.Test.YtpoffpdaadhkgaaQNice
-- IMPORT Derived.Test.YtpoffpdaadhkgaaUSameS
-- IMPORT Derived.Deep.LoopGhost
def nodeIn (n x : Int) : Bool := decide (0 ≤ x) && decide (x < n)
def spanB (x : Int) : Bool := decide (-20 ≤ x) && decide (x ≤ 20)
theorem isNode_any (n x : Int) (w : World) : Calls Try.prog 71 #[.int .i64 n, .int .i64 x] w fun e w' => e = .returned (.bool (nodeIn n x)) ∧ ∃ m, w' = w.drewN m :=
  (impl_isNode.calls n x _ w (by
    unfold impl_isNode.f nodeIn
    by_cases h : x ≥ 0
    · rw [if_pos h, decide_eq_true (show (0 : Int) ≤ x from h), Bool.true_and]
    · rw [if_neg h, decide_eq_false (show ¬ (0 : Int) ≤ x from h), Bool.false_and])).mono fun e w' ⟨he, hd⟩ => ⟨he, hd.out⟩
theorem isSpan_any (x : Int) (w : World) : Calls Try.prog 146 #[.int .i64 x] w fun e w' => e = .returned (.bool (spanB x)) ∧ ∃ m, w' = w.drewN m :=
  (impl_isSpan.calls x _ w (by
    unfold impl_isSpan.f spanB
    by_cases h : x ≥ -20
    · rw [if_pos h, decide_eq_true (show (-20 : Int) ≤ x from h), Bool.true_and]
    · rw [if_neg h, decide_eq_false (show ¬ (-20 : Int) ≤ x from h), Bool.false_and])).mono fun e w' ⟨he, hd⟩ => ⟨he, hd.out⟩
theorem pEqual_any {A0 : Option Addr} {c0 : Nat} {l0 : List Int} {A1 : Option Addr} {c1 : Nat} {l1 : List Int} (w : World) (hr0 : Kd.C (Kd.int .i64) w A0 l0.length l0) (hc0 : l0.length ≤ c0) (hr1 : Kd.C (Kd.int .i64) w A1 l1.length l1) (hc1 : l1.length ≤ c1) :
    Calls Try.prog 147 #[.slice A0 l0.length c0, .slice A1 l1.length c1] w fun e w' => e = .returned (.bool (decide (l0 = l1))) ∧ ∃ n, w' = w.drewN n :=
  (slices_Equal_int_int.calls (2 ^ 64) A0 c0 l0 A1 c1 l1 _ w hr0 hc0 hr1 hc1 (sEqual_f l0 l1 hr0.2.1 _ (Nat.le_refl _))).mono fun e w' ⟨he, hd⟩ => ⟨he, hd.out⟩
theorem quietY {P : Program} {f : FuncId} {args : Array Value} {W : World} {a x : Nat} {v : Value} (h : Calls P f args (W.drewN (a + x)) fun e w' => e = .returned v ∧ ∃ m, w' = (W.drewN (a + x)).drewN m) : Calls P f args (W.drewN (a + x)) fun e w'' => e = .returned v ∧ ∃ n, w'' = W.drewN (a + n) :=
  h.mono fun e w'' ⟨he, m, hm⟩ => ⟨he, x + m, by rw [hm, World.drewN_drewN, Nat.add_assoc]⟩
/-- What the program asks of a tie, the ones before it at hand. -/
def ptieC (tf tt tl th : Int) (tb : Bool) (ns : List S120) (ts : List S126) (i : Nat) : Bool :=
  (nodeIn ns.length tf && nodeIn ns.length tt && !(tf == tt) && spanB tl && spanB th && !(decide (th < tl))) &&
  (!tb || (!(decide (tl < 1)) && !(tt == 0) && !((rd_T120 ns tt).f2 != 0) && decide ((rd_T120 ns tt).f1 = (rd_T120 ns tf).f1) && !((ts.take i).any fun u => u.f4 && decide (u.f1 = tt))))
def ptieB (ns : List S120) (ts : List S126) (i : Nat) : Bool := ptieC (rd_T126 ts i).f0 (rd_T126 ts i).f1 (rd_T126 ts i).f2 (rd_T126 ts i).f3 (rd_T126 ts i).f4 ns ts i
def tiesFrom (ns : List S120) (ts : List S126) (i : Nat) : Nat → Bool
  | 0 => true
  | d + 1 => ptieB ns ts i && tiesFrom ns ts (i + 1) d
def areTiesB (ns : List S120) (ts : List S126) : Bool := tiesFrom ns ts 0 ts.length && decide (ts.length ≤ 14)
theorem tiesFrom_step {ns : List S120} {ts : List S126} {i : Nat} (h : i < ts.length) : tiesFrom ns ts i (ts.length - i) = (ptieB ns ts i && tiesFrom ns ts (i + 1) (ts.length - (i + 1))) := by
  rw [show ts.length - i = (ts.length - (i + 1)) + 1 by omega]; rfl
theorem impl_areTies_1.clo (B : Nat) (p : Int) (W : World) (hB : W.cell? ⟨B, 1, none⟩ = some (.int .i64 p)) (x : S126) :
    Calls Try.prog 149 #[.agg #[.int .i64 x.f0, .int .i64 x.f1, .int .i64 x.f2, .int .i64 x.f3, .bool x.f4], .pointer (some ⟨B, 0, none⟩)] W fun e w' => e = .returned (.bool (x.f4 && decide (x.f1 = p))) ∧ Below W.heap.size W w' := by
  have hlt : B < W.heap.size := World.block_lt_of_cell? W _ hB
  have HE := Aside0.mk (show (x.f1 == p) = decide (x.f1 = p) by rw [Bool.eq_iff_iff]; simp)
  have hu2 := Try.underlying126
  obtain ⟨f0, f1, f2, f3, f4⟩ := x
  cases f4 with
  | false =>
    go_enter Try.func149, Try.ntmps149
    go_wp2
    go_ret
    exact ⟨rfl, (Below.refl _ _).alloc (Nat.le_refl _) _⟩
  | true =>
    go_enter Try.func149, Try.ntmps149
    go_wp2
    go_ret
    exact ⟨by rw [← HE.out]; rfl, (Below.refl _ _).alloc (Nat.le_refl _) _⟩
def impl_areTies.f (l0_0 : List (S120)) (l0_1 : List (S126)) (a0_2 : Int) : Option Bool := some (areTiesB l0_0 l0_1)
set_option maxHeartbeats 8000000 in
set_option maxRecDepth 100000 in
theorem impl_areTies.calls (A0_0 : Option Addr) (c0_0 : Nat) (l0_0 : List (S120)) (A0_1 : Option Addr) (c0_1 : Nat) (l0_1 : List (S126)) (a0_2 : Int) (r : Bool) (w : World) (hr0_0 : Kd.C k120 w A0_0 l0_0.length l0_0) (hc0_0 : l0_0.length ≤ c0_0) (hr0_1 : Kd.C k126 w A0_1 l0_1.length l0_1) (hc0_1 : l0_1.length ≤ c0_1) (h : impl_areTies.f l0_0 l0_1 a0_2 = some r) :
    Calls Try.prog 96 #[.agg #[.slice A0_0 l0_0.length c0_0, .slice A0_1 l0_1.length c0_1, .int .i64 a0_2]] w fun e w' => e = .returned (.bool r) ∧ Below w.heap.size w w' := by
  obtain rfl := Option.some.inj h
  have hL : l0_0.length ≤ 9223372036854775807 := hr0_0.2.1
  have hL1 : l0_1.length ≤ 9223372036854775807 := hr0_1.2.1
  have HRn := Aside0.mk hr0_0
  have HRt := Aside0.mk hr0_1
  have HCn := Aside0.mk hc0_0
  have HCt := Aside0.mk hc0_1
  clear hr0_0 hr0_1 hc0_0 hc0_1 h
  have hu := Try.underlying66
  have hu2 := Try.underlying126
  have HB0 := Aside0.mk (below_alloc (Below.refl w.heap.size w) (.cells #[.slice A0_0 l0_0.length c0_0, .slice A0_1 l0_1.length c0_1, .int .i64 a0_2] 66))
  go_enter Try.func96, Try.ntmps96
  go_wp2
  go_loopg [8] l0_1.length (fun gg s8 wr => ∃ kk : Nat, Aside0 (kk ≤ l0_1.length) ∧ Aside0 (l0_1.length - kk ≤ gg) ∧ s8 = .int .i64 kk ∧ Aside0 (Below w.heap.size w wr) ∧ Aside0 (w.heap.size < wr.heap.size) ∧ Aside0 (wr.cell? ⟨w.heap.size, 0, none⟩ = some (.slice A0_0 l0_0.length c0_0) ∧ wr.cell? ⟨w.heap.size, 1, none⟩ = some (.slice A0_1 l0_1.length c0_1) ∧ wr.cell? ⟨w.heap.size, 2, none⟩ = some (.int .i64 a0_2)) ∧ Aside0 (tiesFrom l0_0 l0_1 0 l0_1.length = tiesFrom l0_0 l0_1 kk (l0_1.length - kk)))
  case atStart => exact ⟨0, ⟨Nat.zero_le _⟩, ⟨by omega⟩, rfl, HB0, ⟨by simp⟩, ⟨by go_simp, by go_simp, by go_simp⟩, ⟨rfl⟩⟩
  case round =>
    obtain ⟨kk, HK, HG, rfl, HBr, HS, HX, HN⟩ := hrel
    have hsz := HS.out
    obtain ⟨hb0, hb1, hb2_⟩ := HX.out
    clear HX
    by_cases hlt : kk < l0_1.length
    · have hltz : (kk : Int) < (l0_1.length : Int) := by omega
      have hkc : kk ≤ c0_1 := by have := HCt.out; omega
      obtain ⟨ad, e1, hx0, hx1, hx2, hx3, hx4⟩ := at_T126 HRt.out (kk : Int) (by omega) hltz
      cases e1
      have HF0 := Aside0.mk (show ptieB l0_0 l0_1 kk = ptieC (rd_T126 l0_1 kk).f0 (rd_T126 l0_1 kk).f1 (rd_T126 l0_1 kk).f2 (rd_T126 l0_1 kk).f3 (rd_T126 l0_1 kk).f4 l0_0 l0_1 kk from rfl)
      rw [Int.toNat_natCast] at hx0 hx1 hx2 hx3 hx4
      revert hx0 hx1 hx2 hx3 hx4 HF0
      generalize (rd_T126 l0_1 kk).f0 = tf
      generalize (rd_T126 l0_1 kk).f1 = tt
      generalize (rd_T126 l0_1 kk).f2 = tl
      generalize (rd_T126 l0_1 kk).f3 = th
      generalize (rd_T126 l0_1 kk).f4 = tb
      intro hx0 hx1 hx2 hx3 hx4 HF0
      replace hx0 := kcell HBr.out hx0
      replace hx1 := kcell HBr.out hx1
      replace hx2 := kcell HBr.out hx2
      replace hx3 := kcell HBr.out hx3
      replace hx4 := kcell HBr.out hx4
      have hlta := World.block_lt_of_cell? wr _ hx0
      have bad : ptieC tf tt tl th tb l0_0 l0_1 kk = false → Aside0 (areTiesB l0_0 l0_1 = false) := fun hh => ⟨by
        unfold areTiesB
        rw [HN.out, tiesFrom_step hlt, HF0.out, hh]; rfl⟩
      have good : ptieC tf tt tl th tb l0_0 l0_1 kk = true → Aside0 (tiesFrom l0_0 l0_1 0 l0_1.length = tiesFrom l0_0 l0_1 (kk + 1) (l0_1.length - (kk + 1))) := fun hh => ⟨by
        rw [HN.out, tiesFrom_step hlt, HF0.out, hh, Bool.true_and]⟩
      clear HF0 HN HS
      cases b1 : nodeIn l0_0.length tf with
      | false =>
        have HF := bad (by simp [ptieC, b1])
        clear bad good
        go_wp2_with (first | (go_at_call 71; refine (isNode_any _ _ _).mono ?_; rintro e w' ⟨rfl, nd, rfl⟩) | (go_at_call 146; refine (isSpan_any _ _).mono ?_; rintro e w' ⟨rfl, nd, rfl⟩))
        go_ret
        exact ⟨by rw [HF.out]; rfl, by repeat (first | (with_reducible first | exact Below.refl _ _ | exact HBr.out | apply below_alloc | apply pw_below_drewN | apply below_drew1) | exact HBr.out)⟩
      | true =>
      cases b2 : nodeIn l0_0.length tt with
      | false =>
        have HF := bad (by simp [ptieC, b2])
        clear bad good
        go_wp2_with (first | (go_at_call 71; refine (isNode_any _ _ _).mono ?_; rintro e w' ⟨rfl, nd, rfl⟩) | (go_at_call 146; refine (isSpan_any _ _).mono ?_; rintro e w' ⟨rfl, nd, rfl⟩))
        go_ret
        exact ⟨by rw [HF.out]; rfl, by repeat (first | (with_reducible first | exact Below.refl _ _ | exact HBr.out | apply below_alloc | apply pw_below_drewN | apply below_drew1) | exact HBr.out)⟩
      | true =>
      cases b3 : (tf == tt) with
      | true =>
        have HF := bad (by simp [ptieC, b3])
        clear bad good
        go_wp2_with (first | (go_at_call 71; refine (isNode_any _ _ _).mono ?_; rintro e w' ⟨rfl, nd, rfl⟩) | (go_at_call 146; refine (isSpan_any _ _).mono ?_; rintro e w' ⟨rfl, nd, rfl⟩))
        go_ret
        exact ⟨by rw [HF.out]; rfl, by repeat (first | (with_reducible first | exact Below.refl _ _ | exact HBr.out | apply below_alloc | apply pw_below_drewN | apply below_drew1) | exact HBr.out)⟩
      | false =>
      cases b4 : spanB tl with
      | false =>
        have HF := bad (by simp [ptieC, b4])
        clear bad good
        go_wp2_with (first | (go_at_call 71; refine (isNode_any _ _ _).mono ?_; rintro e w' ⟨rfl, nd, rfl⟩) | (go_at_call 146; refine (isSpan_any _ _).mono ?_; rintro e w' ⟨rfl, nd, rfl⟩))
        go_ret
        exact ⟨by rw [HF.out]; rfl, by repeat (first | (with_reducible first | exact Below.refl _ _ | exact HBr.out | apply below_alloc | apply pw_below_drewN | apply below_drew1) | exact HBr.out)⟩
      | true =>
      cases b5 : spanB th with
      | false =>
        have HF := bad (by simp [ptieC, b5])
        clear bad good
        go_wp2_with (first | (go_at_call 71; refine (isNode_any _ _ _).mono ?_; rintro e w' ⟨rfl, nd, rfl⟩) | (go_at_call 146; refine (isSpan_any _ _).mono ?_; rintro e w' ⟨rfl, nd, rfl⟩))
        go_ret
        exact ⟨by rw [HF.out]; rfl, by repeat (first | (with_reducible first | exact Below.refl _ _ | exact HBr.out | apply below_alloc | apply pw_below_drewN | apply below_drew1) | exact HBr.out)⟩
      | true =>
      cases b6 : decide (th < tl) with
      | true =>
        have HF := bad (by simp [ptieC, b6])
        clear bad good
        go_wp2_with (first | (go_at_call 71; refine (isNode_any _ _ _).mono ?_; rintro e w' ⟨rfl, nd, rfl⟩) | (go_at_call 146; refine (isSpan_any _ _).mono ?_; rintro e w' ⟨rfl, nd, rfl⟩))
        go_ret
        exact ⟨by rw [HF.out]; rfl, by repeat (first | (with_reducible first | exact Below.refl _ _ | exact HBr.out | apply below_alloc | apply pw_below_drewN | apply below_drew1) | exact HBr.out)⟩
      | false =>
      cases tb with
      | false =>
        have HF := good (by simp [ptieC, b1, b2, b3, b4, b5, b6])
        clear bad good
        go_wp2_with (first | (go_at_call 71; refine (isNode_any _ _ _).mono ?_; rintro e w' ⟨rfl, nd, rfl⟩) | (go_at_call 146; refine (isSpan_any _ _).mono ?_; rintro e w' ⟨rfl, nd, rfl⟩))
        go_roundg (l0_1.length - (kk + 1))
        case measure => have := HG.out; omega
        case rel => exact ⟨kk + 1, ⟨by omega⟩, ⟨by omega⟩, by go_num, ⟨by repeat (first | (with_reducible first | exact Below.refl _ _ | exact HBr.out | apply below_alloc | apply pw_below_drewN | apply below_drew1) | exact HBr.out)⟩, ⟨by simp; omega⟩, ⟨by go_simp, by go_simp, by go_simp⟩, HF⟩
      | true =>
      cases b7 : decide (tl < 1) with
      | true =>
        have HF := bad (by simp [ptieC, b7])
        clear bad good
        go_wp2_with (first | (go_at_call 71; refine (isNode_any _ _ _).mono ?_; rintro e w' ⟨rfl, nd, rfl⟩) | (go_at_call 146; refine (isSpan_any _ _).mono ?_; rintro e w' ⟨rfl, nd, rfl⟩))
        go_quiet (fail)
        go_wp2
        go_ret
        exact ⟨by rw [HF.out]; rfl, by repeat (first | (with_reducible first | exact Below.refl _ _ | exact HBr.out | apply below_alloc | apply pw_below_drewN | apply below_drew1) | exact HBr.out)⟩
      | false =>
      cases b8 : (tt == 0) with
      | true =>
        have HF := bad (by simp [ptieC, b8])
        clear bad good
        go_wp2_with (first | (go_at_call 71; refine (isNode_any _ _ _).mono ?_; rintro e w' ⟨rfl, nd, rfl⟩) | (go_at_call 146; refine (isSpan_any _ _).mono ?_; rintro e w' ⟨rfl, nd, rfl⟩))
        go_quiet (fail)
        go_wp2
        go_ret
        exact ⟨by rw [HF.out]; rfl, by repeat (first | (with_reducible first | exact Below.refl _ _ | exact HBr.out | apply below_alloc | apply pw_below_drewN | apply below_drew1) | exact HBr.out)⟩
      | false =>
      have ht := b2
      have hf := b1
      simp only [nodeIn, Bool.and_eq_true, decide_eq_true_eq] at ht hf
      have pt0 := eq_true ht.1
      have pt1 : (tt < (l0_0.length : Int)) = True := eq_true (by omega)
      have pf0 := eq_true hf.1
      have pf1 : (tf < (l0_0.length : Int)) = True := eq_true (by omega)
      obtain ⟨ad2, At, ct, e2, hn0, hn1, hn2, ln, gn⟩ := at_T120 HRn.out tt (of_eq_true pt0) (of_eq_true pt1)
      cases e2
      obtain ⟨ad3, Af, cf, e3, hm0, hm1, hm2, lm, gm⟩ := at_T120 HRn.out tf (of_eq_true pf0) (of_eq_true pf1)
      cases e3
      replace hn1 := kcell HBr.out hn1
      replace hn2 := kcell HBr.out hn2
      replace hm1 := kcell HBr.out hm1
      have hlt2 := World.block_lt_of_cell? wr _ hn1
      have hlt3 := World.block_lt_of_cell? wr _ hm1
      have LN := Aside0.mk ln
      have GN := Aside0.mk (Kd.C_below gn HBr.out)
      have LM := Aside0.mk lm
      have GM := Aside0.mk (Kd.C_below gm HBr.out)
      have GW := Aside0.mk fun (n : Nat) (A : Option Addr) (l : List Int) (hh : Kd.C (Kd.int .i64) wr A l.length l) => (Kd.C_below hh (pw_below_drewN (below_alloc (Below.refl wr.heap.size wr) (.cells #[.int .i64 tf, .int .i64 tt, .int .i64 tl, .int .i64 th, .bool true] 126)) n))
      clear ht hf ln gn lm gm hn0 hm0 hm2
      cases b9 : ((rd_T120 l0_0 tt).f2 != 0) with
      | true =>
        have HF := bad (by simp [ptieC, b9])
        clear bad good
        go_wp2_with (first | (go_at_call 71; refine (isNode_any _ _ _).mono ?_; rintro e w' ⟨rfl, nd, rfl⟩) | (go_at_call 146; refine (isSpan_any _ _).mono ?_; rintro e w' ⟨rfl, nd, rfl⟩))
        go_quiet (fail)
        go_wp2
        go_ret
        exact ⟨by rw [HF.out]; rfl, by repeat (first | (with_reducible first | exact Below.refl _ _ | exact HBr.out | apply below_alloc | apply pw_below_drewN | apply below_drew1) | exact HBr.out)⟩
      | false =>
      cases b10 : decide ((rd_T120 l0_0 tt).f1 = (rd_T120 l0_0 tf).f1) with
      | false =>
        have HF := bad (by simp only [ptieC, b10, Bool.and_false, Bool.false_and, Bool.not_true, Bool.or_self])
        clear bad good
        go_wp2_with (first | (go_at_call 71; refine (isNode_any _ _ _).mono ?_; rintro e w' ⟨rfl, nd, rfl⟩) | (go_at_call 146; refine (isSpan_any _ _).mono ?_; rintro e w' ⟨rfl, nd, rfl⟩))
        go_quiet ((go_at_call 147; exact quietY (pEqual_any _ (GW.out _ _ _ GN.out) LN.out (GW.out _ _ _ GM.out) LM.out)))
        go_wp2
        go_ret
        exact ⟨by rw [HF.out]; rfl, by repeat (first | (with_reducible first | exact Below.refl _ _ | exact HBr.out | apply below_alloc | apply pw_below_drewN | apply below_drew1) | exact HBr.out)⟩
      | true =>
      have HC := Aside0.mk fun (W : World) (hb : Below wr.heap.size wr W) (hcell : W.cell? ⟨wr.heap.size, 1, none⟩ = some (.int .i64 tt)) => impl_Tie_148.any (fun u => u.f4 && decide (u.f1 = tt)) 149 #[.pointer (some ⟨wr.heap.size, 0, none⟩)] (enters_of Try.func149 (by kernel_rfl) rfl) (some ad) c0_1 (l0_1.take kk) W (Kd.C_take (Kd.C_below HRt.out (HBr.out.trans (hb.mono HBr.out.size))) (by omega))
        (fun W' x _ hb' => impl_areTies_1.clo wr.heap.size tt W' ((hb'.cell (World.block_lt_of_cell? W _ hcell)).trans hcell) x)
      rw [show (l0_1.take kk).length = kk by rw [List.length_take]; omega] at HC
      have B1 := Aside0.mk fun n => (pw_below_drewN (below_alloc (Below.refl wr.heap.size wr) (.cells #[.int .i64 tf, .int .i64 tt, .int .i64 tl, .int .i64 th, .bool true] 126)) n)
      cases b11 : (l0_1.take kk).any (fun u => u.f4 && decide (u.f1 = tt)) with
      | true =>
        rw [b11] at HC
        have HF := bad (by simp only [ptieC, b11, Bool.and_false, Bool.false_and, Bool.not_true, Bool.or_self])
        clear bad good b11
        go_wp2_with (first | (go_at_call 71; refine (isNode_any _ _ _).mono ?_; rintro e w' ⟨rfl, nd, rfl⟩) | (go_at_call 146; refine (isSpan_any _ _).mono ?_; rintro e w' ⟨rfl, nd, rfl⟩))
        go_quiet ((go_at_call 147; exact quietY (pEqual_any _ (GW.out _ _ _ GN.out) LN.out (GW.out _ _ _ GM.out) LM.out)))
        go_wp2_with fail
        refine (HC.out _ (B1.out _) (by go_simp)).mono ?_
        rintro e w2 ⟨rfl, hb2⟩
        go_wp2
        go_ret
        exact ⟨by rw [HF.out]; rfl, HBr.out.trans (((B1.out _).trans (hb2.mono (B1.out _).size)).mono HBr.out.size)⟩
      | false =>
        rw [b11] at HC
        have HF := good (by simp only [ptieC, b1, b2, b3, b4, b5, b6, b7, b8, b9, b10, b11, Bool.not_false, Bool.not_true, Bool.and_true, Bool.true_and, Bool.false_or])
        clear bad good b11
        go_wp2_with (first | (go_at_call 71; refine (isNode_any _ _ _).mono ?_; rintro e w' ⟨rfl, nd, rfl⟩) | (go_at_call 146; refine (isSpan_any _ _).mono ?_; rintro e w' ⟨rfl, nd, rfl⟩))
        go_quiet ((go_at_call 147; exact quietY (pEqual_any _ (GW.out _ _ _ GN.out) LN.out (GW.out _ _ _ GM.out) LM.out)))
        go_wp2_with fail
        refine (HC.out _ (B1.out _) (by go_simp)).mono ?_
        rintro e w2 ⟨rfl, hb2⟩
        have hb3 := (B1.out _).trans (hb2.mono (B1.out _).size)
        go_wp2
        go_roundg (l0_1.length - (kk + 1))
        case measure => have := HG.out; omega
        case rel => exact ⟨kk + 1, ⟨by omega⟩, ⟨by omega⟩, by go_num, ⟨HBr.out.trans (hb3.mono HBr.out.size)⟩, ⟨by have := hb3.size; omega⟩, ⟨kcell hb3 hb0, kcell hb3 hb1, kcell hb3 hb2_⟩, HF⟩
    · have hltz : ¬ (kk : Int) < (l0_1.length : Int) := by omega
      have : kk = l0_1.length := by have := HK.out; omega
      subst this
      have HF := Aside0.mk (show areTiesB l0_0 l0_1 = decide ((l0_1.length : Int) ≤ 14) by
        unfold areTiesB
        rw [HN.out, Nat.sub_self]
        show (true && _) = _
        rw [Bool.true_and, Bool.eq_iff_iff, decide_eq_true_eq, decide_eq_true_eq]; omega)
      go_wp2
      go_ret
      exact ⟨by rw [HF.out]; rfl, by repeat (first | (with_reducible first | exact Below.refl _ _ | exact HBr.out | apply below_alloc | apply pw_below_drewN | apply below_drew1) | exact HBr.out)⟩

end Go.Proofs.Ytpoffpdaadhkgaa.Pr

namespace Go.Proofs.Ytpoffpdaadhkgaa.Pr
open Go.RowKit Go.Proofs.YtpoffpdaadhkgaaW.PrintWords Go.Proofs.YtpoffpdaadhkgaaW.PrintLast Go.Proofs.YtpoffpdaadhkgaaW.PrintMore
attribute [local go_sem] max2_int min2_int max_two min_two max_three min_three max_four min_four
set_option linter.unusedVariables false
set_option linter.unusedSimpArgs false

/-! ### impl_ShowOk: function 44 (by hand) -/
-- IMPORT Derived.Test.YtpoffpdaadhkgaaUNodes
-- IMPORT Derived.Test.YtpoffpdaadhkgaaUQuiet
-- IMPORT Derived.Test.YtpoffpdaadhkgaaUWatched
-- IMPORT Derived.Deep.LoopGhost
open Go.Proofs.Ytpoffpdaadhkgaa.Ni
def nodeW (ns : List S120) (n : S120) : Bool := !(n.f1.any fun x => !watchedB ns n.f1 x)
def pshowB (ns : List S120) (ts : List S126) (z : Int) : Bool := areNodesB ns && areTiesB ns ts && !(decide (z < 1)) && !(decide (10 < z)) && ns.all (nodeW ns)
def impl_ShowOk.f (l0_0 : List (S120)) (l0_1 : List (S126)) (a0_2 : Int) : Option Bool := if fitN l0_0 = true then some (pshowB l0_0 l0_1 a0_2) else none
set_option maxHeartbeats 8000000 in
theorem impl_ShowOk_1.clo (k : Nat) (hk : 2 ^ 64 ≤ k) (B D : Nat) (A0_0 : Option Addr) (c0_0 : Nat) (l0_0 : List S120) (A0_1 : Option Addr) (c0_1 : Nat) (l0_1 : List S126) (a0_2 : Int) (An : Option Addr) (cn : Nat) (lb : List Int) (x : Int) (W : World)
    (h0 : W.cell? ⟨B, 0, none⟩ = some (.slice A0_0 l0_0.length c0_0)) (h1 : W.cell? ⟨B, 1, none⟩ = some (.slice A0_1 l0_1.length c0_1)) (h2 : W.cell? ⟨B, 2, none⟩ = some (.int .i64 a0_2)) (h3 : W.cell? ⟨D, 1, none⟩ = some (.slice An lb.length cn))
    (hr0_0 : Kd.C k120 W A0_0 l0_0.length l0_0) (hc0_0 : l0_0.length ≤ c0_0) (hr0_1 : Kd.C k126 W A0_1 l0_1.length l0_1) (hc0_1 : l0_1.length ≤ c0_1) (hrn : Kd.C (Kd.int .i64) W An lb.length lb) (hcn : lb.length ≤ cn)
    (hf : impl_isWatched.f k l0_0 l0_1 a0_2 lb x = some (watchedB l0_0 lb x)) :
    Calls Try.prog 97 #[.int .i64 x, .pointer (some ⟨B, 0, none⟩), .pointer (some ⟨D, 0, none⟩)] W fun e w' => e = .returned (.bool (!watchedB l0_0 lb x)) ∧ Below W.heap.size W w' := by
  have hltB : B < W.heap.size := World.block_lt_of_cell? W _ h0
  have hltD : D < W.heap.size := World.block_lt_of_cell? W _ h3
  have HC := Aside0.mk (impl_isWatched.calls k A0_0 c0_0 l0_0 A0_1 c0_1 l0_1 a0_2 An cn lb x _ W hr0_0 hc0_0 hr0_1 hc0_1 hrn hcn hf)
  have hu := Try.underlying66
  have hu2 := Try.underlying120
  clear hr0_0 hr0_1 hrn hf hc0_0 hc0_1 hcn
  cases b : watchedB l0_0 lb x
  all_goals
    rw [b] at HC
    clear b
    go_enter Try.func97, Try.ntmps97
    go_wp2_with (go_at_call 98; refine HC.out.mono ?_; rintro e w' ⟨rfl, hb⟩)
    go_ret
    exact ⟨rfl, hb⟩
set_option maxHeartbeats 8000000 in
set_option maxRecDepth 100000 in
theorem impl_ShowOk.calls (A0_0 : Option Addr) (c0_0 : Nat) (l0_0 : List (S120)) (A0_1 : Option Addr) (c0_1 : Nat) (l0_1 : List (S126)) (a0_2 : Int) (r : Bool) (w : World) (hr0_0 : Kd.C k120 w A0_0 l0_0.length l0_0) (hc0_0 : l0_0.length ≤ c0_0) (hr0_1 : Kd.C k126 w A0_1 l0_1.length l0_1) (hc0_1 : l0_1.length ≤ c0_1) (h : impl_ShowOk.f l0_0 l0_1 a0_2 = some r) :
    Calls Try.prog 44 #[.agg #[.slice A0_0 l0_0.length c0_0, .slice A0_1 l0_1.length c0_1, .int .i64 a0_2]] w fun e w' => e = .returned (.bool r) ∧ Below w.heap.size w w' := by
  by_cases hfit : fitN l0_0 = true
  case neg => rw [impl_ShowOk.f, if_neg hfit] at h; exact absurd h (by simp)
  rw [impl_ShowOk.f, if_pos hfit] at h
  obtain rfl := Option.some.inj h
  have hfi := fitN_iff hfit
  have hL : l0_0.length ≤ 9223372036854775807 := hr0_0.2.1
  have HRn := Aside0.mk hr0_0
  have HRt := Aside0.mk hr0_1
  have HCn := Aside0.mk hc0_0
  have HCt := Aside0.mk hc0_1
  have HFI := Aside0.mk hfi
  have B1 := Aside0.mk (below_alloc (Below.refl w.heap.size w) (.cells #[.slice A0_0 l0_0.length c0_0, .slice A0_1 l0_1.length c0_1, .int .i64 a0_2] 66))
  have HK := Aside0.mk fun (W : World) (hA : Below (w.alloc (.cells #[.slice A0_0 l0_0.length c0_0, .slice A0_1 l0_1.length c0_1, .int .i64 a0_2] 66)).heap.size (w.alloc (.cells #[.slice A0_0 l0_0.length c0_0, .slice A0_1 l0_1.length c0_1, .int .i64 a0_2] 66)) W) => And.intro (B1.out.trans (hA.mono B1.out.size)) (And.intro (kcell hA (show _ = some (.slice A0_0 l0_0.length c0_0) from showCell0 w _ _ _ _)) (And.intro (kcell hA (showCell1 w _ _ _ _)) (And.intro (kcell hA (showCell2 w _ _ _ _)) (show w.heap.size < W.heap.size from Nat.lt_of_lt_of_le (by simp) hA.size))))
  have HN := Aside0.mk fun (W : World) (hb : Below w.heap.size w W) => impl_areNodes.calls (2 ^ 65) A0_0 c0_0 l0_0 A0_1 c0_1 l0_1 a0_2 _ W (Kd.C_below hr0_0 hb) hc0_0 (Kd.C_below hr0_1 hb) hc0_1 (areNodes_f l0_0 l0_1 a0_2 hfi (2 ^ 65) (Nat.le_refl _))
  have HT := Aside0.mk fun (W : World) (hb : Below w.heap.size w W) => impl_areTies.calls A0_0 c0_0 l0_0 A0_1 c0_1 l0_1 a0_2 _ W (Kd.C_below hr0_0 hb) hc0_0 (Kd.C_below hr0_1 hb) hc0_1 rfl
  have hlb : areNodesB l0_0 = true → ∀ n ∈ l0_0, ∀ x ∈ n.f1, litOk x = true := areNodesB_lit
  clear hr0_0 hr0_1 hc0_0 hc0_1 h hfi hfit
  have hu := Try.underlying66
  have hu2 := Try.underlying120
  cases b1 : areNodesB l0_0 with
  | false =>
    rw [b1] at HN
    have HF := Aside0.mk (show pshowB l0_0 l0_1 a0_2 = false by simp [pshowB, b1])
    clear hlb b1
    go_enter Try.func44, Try.ntmps44
    go_wp2_with (go_at_call 95; refine (HN.out _ B1.out).mono ?_; rintro e w1 ⟨rfl, hb⟩; obtain ⟨hB, hc0, hc1, hc2, hS⟩ := HK.out _ hb)
    go_ret
    exact ⟨by rw [HF.out]; rfl, hB⟩
  | true =>
  rw [b1] at HN
  have HLB := Aside0.mk (hlb b1)
  clear hlb
  cases b2 : areTiesB l0_0 l0_1 with
  | false =>
    rw [b2] at HT
    have HF := Aside0.mk (show pshowB l0_0 l0_1 a0_2 = false by simp [pshowB, b2])
    clear b1 b2
    go_enter Try.func44, Try.ntmps44
    go_wp2_with (first | (go_at_call 95; refine (HN.out _ B1.out).mono ?_; rintro e w1 ⟨rfl, hA⟩; obtain ⟨hB, hc0, hc1, hc2, hS⟩ := HK.out _ hA) | (go_at_call 96; refine (HT.out _ hB).mono ?_; rintro e w2 ⟨rfl, hb⟩; replace hA := hA.trans (hb.mono hA.size); clear hB hc0 hc1 hc2 hS; obtain ⟨hB, hc0, hc1, hc2, hS⟩ := HK.out _ hA; clear hb))
    go_ret
    exact ⟨by rw [HF.out]; rfl, hB⟩
  | true =>
  rw [b2] at HT
  cases b3 : decide (a0_2 < 1) with
  | true =>
    have HF := Aside0.mk (show pshowB l0_0 l0_1 a0_2 = false by simp [pshowB, b3])
    clear b1 b2
    go_enter Try.func44, Try.ntmps44
    go_wp2_with (first | (go_at_call 95; refine (HN.out _ B1.out).mono ?_; rintro e w1 ⟨rfl, hA⟩; obtain ⟨hB, hc0, hc1, hc2, hS⟩ := HK.out _ hA) | (go_at_call 96; refine (HT.out _ hB).mono ?_; rintro e w2 ⟨rfl, hb⟩; replace hA := hA.trans (hb.mono hA.size); clear hB hc0 hc1 hc2 hS; obtain ⟨hB, hc0, hc1, hc2, hS⟩ := HK.out _ hA; clear hb))
    go_ret
    exact ⟨by rw [HF.out]; rfl, hB⟩
  | false =>
  cases b4 : decide (10 < a0_2) with
  | true =>
    have HF := Aside0.mk (show pshowB l0_0 l0_1 a0_2 = false by simp [pshowB, b4])
    clear b1 b2
    go_enter Try.func44, Try.ntmps44
    go_wp2_with (first | (go_at_call 95; refine (HN.out _ B1.out).mono ?_; rintro e w1 ⟨rfl, hA⟩; obtain ⟨hB, hc0, hc1, hc2, hS⟩ := HK.out _ hA) | (go_at_call 96; refine (HT.out _ hB).mono ?_; rintro e w2 ⟨rfl, hb⟩; replace hA := hA.trans (hb.mono hA.size); clear hB hc0 hc1 hc2 hS; obtain ⟨hB, hc0, hc1, hc2, hS⟩ := HK.out _ hA; clear hb))
    go_ret
    exact ⟨by rw [HF.out]; rfl, hB⟩
  | false =>
  have HF := Aside0.mk (show pshowB l0_0 l0_1 a0_2 = l0_0.all (nodeW l0_0) by simp [pshowB, b1, b2, b3, b4])
  clear b1 b2
  go_enter Try.func44, Try.ntmps44
  go_wp2_with (first | (go_at_call 95; refine (HN.out _ B1.out).mono ?_; rintro e w1 ⟨rfl, hA⟩; obtain ⟨hB, hc0, hc1, hc2, hS⟩ := HK.out _ hA) | (go_at_call 96; refine (HT.out _ hB).mono ?_; rintro e w2 ⟨rfl, hb⟩; replace hA := hA.trans (hb.mono hA.size); clear hB hc0 hc1 hc2 hS; obtain ⟨hB, hc0, hc1, hc2, hS⟩ := HK.out _ hA; clear hb))
  have HB0 := Aside0.mk hB
  have HX0 := Aside0.mk (And.intro hc0 (And.intro hc1 hc2))
  have HS0 := Aside0.mk hS
  clear hA hB hc0 hc1 hc2 hS
  go_loopg [4, 26] l0_0.length (fun gg _ s26 wr => ∃ kk : Nat, Aside0 (kk ≤ l0_0.length) ∧ Aside0 (l0_0.length - kk ≤ gg) ∧ s26 = .int .i64 kk ∧ Aside0 (Below w.heap.size w wr) ∧ Aside0 (w.heap.size < wr.heap.size) ∧ Aside0 (wr.cell? ⟨w.heap.size, 0, none⟩ = some (.slice A0_0 l0_0.length c0_0) ∧ wr.cell? ⟨w.heap.size, 1, none⟩ = some (.slice A0_1 l0_1.length c0_1) ∧ wr.cell? ⟨w.heap.size, 2, none⟩ = some (.int .i64 a0_2)) ∧ Aside0 (l0_0.all (nodeW l0_0) = (l0_0.drop kk).all (nodeW l0_0)))
  case atStart => exact ⟨0, ⟨Nat.zero_le _⟩, ⟨by omega⟩, rfl, HB0, HS0, HX0, ⟨rfl⟩⟩
  case round =>
    obtain ⟨kk, HK', HG, rfl, HBr, HS, HX, HN'⟩ := hrel
    have hsz := HS.out
    obtain ⟨hb0, hb1, hb2_⟩ := HX.out
    by_cases hlt : kk < l0_0.length
    · have hltz : (kk : Int) < (l0_0.length : Int) := by omega
      obtain ⟨ad, Am, cm, e1, hm0, hm1, hm2, lm, gm⟩ := at_T120 HRn.out (kk : Int) (by omega) hltz
      cases e1
      have HDR := Aside0.mk (drop_cons hlt z120)
      have hmem := Aside0.mk (getD_mem hlt z120)
      rw [← rdN_nat] at HDR hmem
      rw [Int.toNat_natCast] at hm0 hm1 hm2
      generalize rd_T120 l0_0 (kk : Int) = y at hm0 hm1 hm2 lm gm HDR hmem
      replace hm0 := kcell HBr.out hm0
      replace hm1 := kcell HBr.out hm1
      replace hm2 := kcell HBr.out hm2
      have hlta := World.block_lt_of_cell? wr _ hm0
      have LM := Aside0.mk lm
      have GM := Aside0.mk (Kd.C_below gm HBr.out)
      clear lm gm
      have B2 := Aside0.mk (below_alloc (Below.refl wr.heap.size wr) (.cells #[.string y.f0, .slice Am y.f1.length cm, .int .i64 y.f2] 120))
      have HC := Aside0.mk fun (W : World) (hb : Below wr.heap.size wr W) (hcell : W.cell? ⟨wr.heap.size, 1, none⟩ = some (.slice Am y.f1.length cm)) => slices_ContainsFunc_int_int.any (fun x => !watchedB l0_0 y.f1 x) 97 #[.pointer (some ⟨w.heap.size, 0, none⟩), .pointer (some ⟨wr.heap.size, 0, none⟩)] (enters_of Try.func97 (by kernel_rfl) rfl) Am cm y.f1 W (Kd.C_below GM.out hb)
        (fun W' x hx hb' => impl_ShowOk_1.clo (2 ^ 64) (Nat.le_refl _) w.heap.size wr.heap.size (some ad) c0_0 l0_0 A0_1 c0_1 l0_1 a0_2 Am cm y.f1 x W' (kcell hb' (kcell hb HX.out.1)) (kcell hb' (kcell hb HX.out.2.1)) (kcell hb' (kcell hb HX.out.2.2)) (kcell hb' hcell)
          (Kd.C_below (Kd.C_below (Kd.C_below HRn.out HBr.out) hb) hb') HCn.out (Kd.C_below (Kd.C_below (Kd.C_below HRt.out HBr.out) hb) hb') HCt.out (Kd.C_below (Kd.C_below GM.out hb) hb') LM.out
          (isWatched_f l0_0 l0_1 a0_2 y.f1 x (fun n hn => (HFI.out n hn).2) (HFI.out y hmem.out).2 (HLB.out y hmem.out x hx) (2 ^ 64) (Nat.le_refl _)))
      cases b5 : y.f1.any (fun x => !watchedB l0_0 y.f1 x) with
      | true =>
        rw [b5] at HC
        have HF2 := Aside0.mk (show pshowB l0_0 l0_1 a0_2 = false by
          rw [HF.out, HN'.out, HDR.out, List.all_cons, show nodeW l0_0 y = false by unfold nodeW; rw [b5]; rfl]; rfl)
        clear b5
        go_wp2_with fail
        refine (HC.out _ B2.out (by go_simp)).mono ?_
        rintro e w3 ⟨rfl, hb⟩
        have hb3 := B2.out.trans (hb.mono B2.out.size)
        go_wp2
        go_ret
        exact ⟨by rw [HF2.out]; rfl, HBr.out.trans (hb3.mono HBr.out.size)⟩
      | false =>
        rw [b5] at HC
        have HF2 := Aside0.mk (show l0_0.all (nodeW l0_0) = (l0_0.drop (kk + 1)).all (nodeW l0_0) by
          rw [HN'.out, HDR.out, List.all_cons, show nodeW l0_0 y = true by unfold nodeW; rw [b5]; rfl]; rfl)
        clear b5
        go_wp2_with fail
        refine (HC.out _ B2.out (by go_simp)).mono ?_
        rintro e w3 ⟨rfl, hb⟩
        have hb3 := B2.out.trans (hb.mono B2.out.size)
        go_wp2
        go_roundg (l0_0.length - (kk + 1))
        case measure => have := HG.out; omega
        case rel => exact ⟨kk + 1, ⟨by omega⟩, ⟨by omega⟩, by go_num, ⟨HBr.out.trans (hb3.mono HBr.out.size)⟩, ⟨by have := hb3.size; omega⟩, ⟨kcell hb3 hb0, kcell hb3 hb1, kcell hb3 hb2_⟩, HF2⟩
    · have hltz : ¬ (kk : Int) < (l0_0.length : Int) := by omega
      have : kk = l0_0.length := by have := HK'.out; omega
      subst this
      have HF2 := Aside0.mk (show pshowB l0_0 l0_1 a0_2 = true by
        rw [HF.out, HN'.out, List.drop_length]; rfl)
      go_wp2
      go_ret
      exact ⟨by rw [HF2.out]; rfl, HBr.out⟩

end Go.Proofs.Ytpoffpdaadhkgaa.Pr

namespace Go.Proofs.Ytpoffpdaadhkgaa.Pr
open Go.RowKit Go.Proofs.YtpoffpdaadhkgaaW.PrintWords Go.Proofs.Ytpoffpdaadhkgaa.Ni
theorem toIntS_f (l : List Int) (hl : l.length ≤ 35184372088832) (k : Nat) (hk : 2 ^ 64 ≤ k) : laws_toIntS.f k l = some l := by
  have key := loop_up l.length (fun k i => laws_toIntS.l0 k l (l.take i ++ List.replicate (l.length - i) 0) (i : Int) = some l) 0
    (fun k _ => by simp [laws_toIntS.l0])
    (fun k i _ hi ih => by
      simp only [laws_toIntS.l0]
      rw [if_pos (by omega), if_pos (by omega), if_pos (by simp; omega), wrap_nat hi (by omega), Int.toNat_natCast, set_step l 0 0 i hi _ (rd_nat l i)]
      exact ih) 0 k (Nat.zero_le _) (by omega)
  unfold laws_toIntS.f
  rw [if_pos (by omega), if_pos (by omega), Int.toNat_natCast]
  simpa using key
theorem eqIntS_f (l m : List Int) (hl : l.length ≤ 9223372036854775807) (k : Nat) (hk : 2 ^ 64 ≤ k) : laws_eqIntS.f k l m = some (decide (l = m)) := by
  unfold laws_eqIntS.f
  by_cases e : l.length = m.length
  · rw [if_pos (by omega)]
    have key := loop_up l.length (fun k i => laws_eqIntS.l0 k l m (i : Int) = some (decide (l.drop i = m.drop i))) 0
      (fun k _ => by
        simp only [laws_eqIntS.l0]
        rw [if_neg (by omega), List.drop_of_length_le (Nat.le_refl _), List.drop_of_length_le (by omega)]
        simp)
      (fun k i _ hi ih => by
        simp only [laws_eqIntS.l0]
        rw [if_pos (by omega), if_pos (by omega), if_pos (by omega), rd_nat, rd_nat, wrap_nat hi (by omega), drop_cons hi 0, drop_cons (show i < m.length by omega) 0]
        by_cases h : l.getD i 0 = m.getD i 0
        · rw [if_pos h, ih, h]; simp
        · rw [if_neg h]
          simp only [List.cons.injEq, h, false_and, decide_false]) 0 k (Nat.zero_le _) (by omega)
    simpa using key
  · rw [if_neg (by omega)]
    have : l ≠ m := fun h => e (by rw [h])
    simp [this]
theorem eqIntS_refl (l : List Int) (hl : l.length ≤ 9223372036854775807) (k : Nat) (hk : 2 ^ 64 ≤ k) : laws_eqIntS.f k l l = some true := by
  rw [eqIntS_f l l hl k hk]; simp
end Go.Proofs.Ytpoffpdaadhkgaa.Pr

namespace Go.Proofs.Ytpoffpdaadhkgaa.Pr
open Go.RowKit Go.Proofs.YtpoffpdaadhkgaaW.PrintWords Go.Proofs.Ytpoffpdaadhkgaa.Ni
theorem szIntS_f (l : List Int) (hl : l.length ≤ 9223372036854775807) (a : Int) (h0 : 0 ≤ a) (h1 : a ≤ 1048576) : laws_szIntS.f l a = some (if a - l.length < 0 then -1 else a - l.length) := by
  unfold laws_szIntS.f
  rw [wrap_id (by omega) (by omega)]
  split <;> rfl
theorem szNode_f (s : ByteArray) (l : List Int) (n : Int) (hs : s.size ≤ 9223372036854775807) (hl : l.length ≤ 9223372036854775807) (a : Int) (h0 : 0 ≤ a) (h1 : a ≤ 1048576) :
    ∃ r, laws_szNode.f s l n a = some r ∧ (r < 0 ∨ (0 ≤ r ∧ r ≤ a ∧ s.size ≤ 1048576 ∧ l.length ≤ 1048576)) := by
  unfold laws_szNode.f
  rw [wrap_id (by omega) (by omega)]
  by_cases h : a - (s.size : Int) < 0
  · rw [if_pos h]; exact ⟨_, rfl, .inl (by omega)⟩
  · rw [if_neg h, szIntS_f l hl _ (by omega) (by omega), Option.bind_some]
    by_cases h2 : a - (s.size : Int) - l.length < 0
    · rw [if_pos h2, if_pos (by omega)]; exact ⟨_, rfl, .inl (by omega)⟩
    · rw [if_neg h2, if_neg h2]; exact ⟨_, rfl, .inr ⟨by omega, by omega, by omega, by omega⟩⟩
theorem toNode_f (s : ByteArray) (l : List Int) (n : Int) (hl : l.length ≤ 35184372088832) (k : Nat) (hk : 2 ^ 64 ≤ k) : laws_toNode.f k s l n = some (s, l, n) := by
  unfold laws_toNode.f
  rw [toIntS_f l hl k hk]; rfl
theorem eqNode_refl (s : ByteArray) (l : List Int) (n : Int) (hl : l.length ≤ 9223372036854775807) (k : Nat) (hk : 2 ^ 64 ≤ k) : laws_eqNode.f k s l n s l n = some true := by
  unfold laws_eqNode.f
  rw [if_pos rfl, eqIntS_refl l hl k hk, Option.bind_some, if_pos rfl, if_pos rfl]
end Go.Proofs.Ytpoffpdaadhkgaa.Pr

namespace Go.Proofs.Ytpoffpdaadhkgaa.Pr
open Go.RowKit Go.Proofs.YtpoffpdaadhkgaaW.PrintWords Go.Proofs.Ytpoffpdaadhkgaa.Ni
theorem szNodeS_l (l : List LNode) (hl : l.length ≤ 9223372036854775807) (hb : ∀ n ∈ l, n.f0.size ≤ 9223372036854775807 ∧ n.f1.length ≤ 9223372036854775807) (k : Nat) (hk : 2 ^ 64 ≤ k) :
    ∀ a : Int, 0 ≤ a → a ≤ 1048576 → ∃ r, laws_szNodeS.l0 k l a 0 = some r ∧ (r < 0 ∨ (0 ≤ r ∧ r ≤ a ∧ ∀ n ∈ l, n.f0.size ≤ 1048576 ∧ n.f1.length ≤ 1048576)) := by
  have key := loop_up l.length (fun k i => ∀ a : Int, 0 ≤ a → a ≤ 1048576 → ∃ r, laws_szNodeS.l0 k l a (i : Int) = some r ∧ (r < 0 ∨ (0 ≤ r ∧ r ≤ a ∧ ∀ n ∈ l.drop i, n.f0.size ≤ 1048576 ∧ n.f1.length ≤ 1048576))) 0
    (fun k _ a h0 h1 => ⟨a, by simp [laws_szNodeS.l0], .inr ⟨h0, Int.le_refl _, by simp⟩⟩)
    (fun k i _ hi ih a h0 h1 => by
      simp only [laws_szNodeS.l0]
      rw [if_pos (by omega), if_pos (by omega), rdLN_nat, wrap_nat hi (by omega)]
      have hm := hb _ (getD_mem hi z159)
      obtain ⟨r, hr, h⟩ := szNode_f (l.getD i z159).f0 (l.getD i z159).f1 (l.getD i z159).f2 hm.1 hm.2 a h0 h1
      rw [hr, Option.bind_some]
      rcases h with h | ⟨h2, h3, h4, h5⟩
      · rw [if_pos h]; exact ⟨_, rfl, .inl (by omega)⟩
      · rw [if_neg (by omega)]
        obtain ⟨q, hq, h⟩ := ih r h2 (by omega)
        refine ⟨q, hq, ?_⟩
        rcases h with h | ⟨h6, h7, h8⟩
        · exact .inl h
        · refine .inr ⟨h6, by omega, ?_⟩
          rw [drop_cons hi z159]
          intro n hn
          rcases List.mem_cons.1 hn with rfl | hn
          · exact ⟨h4, h5⟩
          · exact h8 n hn) 0 k (Nat.zero_le _) (by omega)
  intro a h0 h1
  simpa using key a h0 h1
theorem szShow_f (ns : List LNode) (ts : List LTie) (z : Int) (hn : ns.length ≤ 9223372036854775807) (hb : ∀ n ∈ ns, n.f0.size ≤ 9223372036854775807 ∧ n.f1.length ≤ 9223372036854775807) (ht : ts.length ≤ 9223372036854775807) (k : Nat) (hk : 2 ^ 64 ≤ k) (a : Int) (h0 : 0 ≤ a) (h1 : a ≤ 1048576) :
    ∃ r, laws_szShow.f k ns ts z a = some r ∧ (r < 0 ∨ (0 ≤ r ∧ r ≤ a ∧ SmallShow ns ts)) := by
  unfold laws_szShow.f laws_szNodeS.f
  rw [wrap_id (by omega) (by omega)]
  by_cases h : a - (ns.length : Int) < 0
  · rw [if_pos h, Option.bind_some, if_pos (by omega)]; exact ⟨_, rfl, .inl (by omega)⟩
  · rw [if_neg h]
    obtain ⟨r, hr, h⟩ := szNodeS_l ns hn hb k hk (a - ns.length) (by omega) (by omega)
    rw [hr, Option.bind_some]
    rcases h with h | ⟨h2, h3, h4⟩
    · rw [if_pos h]; exact ⟨_, rfl, .inl (by omega)⟩
    · rw [if_neg (by omega)]
      unfold laws_szTieS.f
      rw [wrap_id (by omega) (by omega)]
      by_cases h5 : r - (ts.length : Int) < 0
      · rw [if_pos h5, Option.bind_some, if_pos (by omega)]; exact ⟨_, rfl, .inl (by omega)⟩
      · rw [if_neg h5, Option.bind_some, if_neg h5]; exact ⟨_, rfl, .inr ⟨by omega, by omega, by omega, by omega, h4⟩⟩
theorem toNodeS_f (l : List LNode) (hl : l.length ≤ 1048576) (hb : ∀ n ∈ l, n.f0.size ≤ 1048576 ∧ n.f1.length ≤ 1048576) (k : Nat) (hk : 2 ^ 65 ≤ k) : laws_toNodeS.f k l = some (l.map cvN) := by
  have key := loop_up l.length (fun k i => laws_toNodeS.l0 k l ((l.map cvN).take i ++ List.replicate ((l.map cvN).length - i) z120) (i : Int) = some (l.map cvN)) (2 ^ 64)
    (fun k _ => by simp [laws_toNodeS.l0]; rw [List.take_of_length_le (by simp)])
    (fun k i hk hi ih => by
      simp only [laws_toNodeS.l0]
      have hm := hb _ (getD_mem hi z159)
      rw [if_pos (by omega), if_pos (by omega), rdLN_nat, toNode_f _ _ _ (by omega) k hk, Option.bind_some, if_pos (by simp; omega), wrap_nat hi (by omega), Int.toNat_natCast, set_step (l.map cvN) _ z120 i (by simpa using hi) _ (by rw [getD_map cvN l i z159 z120 zN]; rfl)]
      exact ih) 0 k (Nat.zero_le _) (by omega)
  unfold laws_toNodeS.f
  rw [if_pos (by omega), if_pos (by omega), Int.toNat_natCast]
  simpa using key
theorem toTieS_f (l : List LTie) (hl : l.length ≤ 1048576) (k : Nat) (hk : 2 ^ 64 ≤ k) : laws_toTieS.f k l = some (l.map cvT) := by
  have key := loop_up l.length (fun k i => laws_toTieS.l0 k l ((l.map cvT).take i ++ List.replicate ((l.map cvT).length - i) z126) (i : Int) = some (l.map cvT)) 0
    (fun k _ => by simp [laws_toTieS.l0]; rw [List.take_of_length_le (by simp)])
    (fun k i hk hi ih => by
      simp only [laws_toTieS.l0, laws_toTie.f]
      rw [if_pos (by omega), if_pos (by omega), rdLT_nat, Option.bind_some, if_pos (by simp; omega), wrap_nat hi (by omega), Int.toNat_natCast, set_step (l.map cvT) _ z126 i (by simpa using hi) _ (by rw [getD_map cvT l i z165 z126 zT]; rfl)]
      exact ih) 0 k (Nat.zero_le _) (by omega)
  unfold laws_toTieS.f
  rw [if_pos (by omega), if_pos (by omega), Int.toNat_natCast]
  simpa using key
theorem toShow_f (ns : List LNode) (ts : List LTie) (z : Int) (h : SmallShow ns ts) (k : Nat) (hk : 2 ^ 65 ≤ k) : laws_toShow.f k ns ts z = some (ns.map cvN, ts.map cvT, z) := by
  unfold laws_toShow.f
  rw [toNodeS_f ns h.1 h.2.2 k hk, Option.bind_some, toTieS_f ts h.2.1 k (by omega)]; rfl
theorem eqNodeS_refl (l : List PNode) (hl : l.length ≤ 1048576) (hb : ∀ n ∈ l, n.f0.size ≤ 1048576 ∧ n.f1.length ≤ 1048576) (k : Nat) (hk : 2 ^ 65 ≤ k) : laws_eqNodeS.f k l l = some true := by
  have key := loop_up l.length (fun k i => laws_eqNodeS.l0 k l l (i : Int) = some true) (2 ^ 64)
    (fun k _ => by simp [laws_eqNodeS.l0])
    (fun k i hk hi ih => by
      simp only [laws_eqNodeS.l0]
      have hm := hb _ (getD_mem hi z120)
      rw [if_pos (by omega), if_pos (by omega), if_pos (by omega), rdN_nat, eqNode_refl _ _ _ (by omega) k hk, Option.bind_some, if_pos rfl, wrap_nat hi (by omega)]
      exact ih) 0 k (Nat.zero_le _) (by omega)
  unfold laws_eqNodeS.f
  rw [if_pos rfl]
  simpa using key
theorem eqTieS_refl (l : List PTie) (hl : l.length ≤ 1048576) (k : Nat) (hk : 2 ^ 64 ≤ k) : laws_eqTieS.f k l l = some true := by
  have key := loop_up l.length (fun k i => laws_eqTieS.l0 k l l (i : Int) = some true) 0
    (fun k _ => by simp [laws_eqTieS.l0])
    (fun k i hk hi ih => by
      simp only [laws_eqTieS.l0, laws_eqTie.f]
      rw [if_pos (by omega), if_pos (by omega), if_pos (by omega), wrap_nat hi (by omega), ih]
      simp) 0 k (Nat.zero_le _) (by omega)
  unfold laws_eqTieS.f
  rw [if_pos rfl]
  simpa using key
theorem eqShow_refl (ns : List PNode) (ts : List PTie) (z : Int) (h : SmallP ns ts) (k : Nat) (hk : 2 ^ 65 ≤ k) : laws_eqShow.f k ns ts z ns ts z = some true := by
  unfold laws_eqShow.f
  rw [eqNodeS_refl ns h.1 h.2.2 k hk, Option.bind_some, if_pos rfl, eqTieS_refl ts h.2.1 k (by omega), Option.bind_some, if_pos rfl, if_pos rfl]
end Go.Proofs.Ytpoffpdaadhkgaa.Pr

namespace Go.Proofs.Ytpoffpdaadhkgaa.Pr
open Go.RowKit Go.Proofs.YtpoffpdaadhkgaaW.PrintWords Go.Proofs.Ytpoffpdaadhkgaa.Ni
theorem idx_at {α : Type} (p : α → Bool) (l : List α) (i : Nat) (x : α) (h : l[i]? = some x) (hx : p x = true) : decide (idxOf p l = (i : Int)) = (l.take i).all (fun y => !p y) := by
  have hi : i < l.length := by
    rcases Nat.lt_or_ge i l.length with h' | h'
    · exact h'
    · rw [List.getElem?_eq_none h'] at h; exact absurd h (by simp)
  by_cases ha : (l.take i).all (fun y => !p y) = true
  · rw [ha, decide_eq_true_eq]
    refine idxOf_hit p l i x h hx fun j y hj hy => ?_
    have := List.all_eq_true.1 ha y (List.mem_of_getElem? (i := j) (by rw [List.getElem?_take_of_lt hj]; exact hy))
    simpa using this
  · rw [Bool.eq_false_iff.2 ha, decide_eq_false_iff_not]
    intro e
    apply ha
    rw [List.all_eq_true]
    intro y hy
    obtain ⟨j, hj, rfl⟩ := List.mem_iff_getElem.1 hy
    have hj' : j < i := by rw [List.length_take] at hj; omega
    unfold idxOf at e
    cases hf : l.findIdx? p with
    | none => rw [hf] at e; simp only at e; omega
    | some m =>
      rw [hf] at e
      have : m = i := by simp only at e; omega
      subst this
      obtain ⟨_, _, h3⟩ := List.findIdx?_eq_some_iff_getElem.1 hf
      have := h3 j hj'
      rw [List.getElem_take]
      simpa using this
theorem all_pair {α : Type} (a b : α → Bool) (c : Bool) (l : List α) : l.all (fun m => a m && (c || b m)) = (l.all a && (c || l.all b)) := by
  induction l with
  | nil => simp
  | cons x l ih => rw [List.all_cons, List.all_cons, List.all_cons, ih]; cases a x <;> cases b x <;> cases c <;> simp
theorem bne_dec (a b : Int) : (!(a != b)) = decide (a = b) := by rw [Bool.eq_iff_iff]; simp
theorem snodeC_at {ns : List PNode} {i : Nat} (h : i < ns.length) : snodeC ns (rd_T120 ns (i : Int)) i = nodeAt ns i := by
  rw [rdN_nat]
  unfold snodeC nodeAt
  have hs := getD_some h z120
  generalize ns.getD i z120 = y at hs
  rw [bne_dec, bne_dec, bne_dec, namedI, watchI, idx_at _ ns i y hs (decide_eq_true rfl), idx_at _ ns i y hs (decide_eq_true rfl), Bool.and_assoc, ← all_pair]
  rfl
theorem snodes_from {ns : List PNode} : ∀ (d i : Nat), i + d = ns.length → snodesFrom ns i d = nodesFrom ns i d
  | 0, _, _ => rfl
  | d + 1, i, h => by rw [snodesFrom, nodesFrom, snodeC_at (by omega), snodes_from d (i + 1) (by omega)]
theorem watch_same (ns : List PNode) {p : Int} (hp : 0 < p) : pwatchI ns p = watchI ns p := by
  unfold pwatchI watchI
  rw [decide_eq_true hp]
  simp only [Bool.true_and]
theorem watched_same (ns : List PNode) (lb : List Int) {x : Int} (hx : litOk x = true) : watchedB ns lb x = swatchB ns lb x := by
  unfold watchedB watchedC swatchB swatchC hasB
  rw [watch_same ns (by have := prp_pos hx; omega)]
  congr 3
  rw [Bool.eq_iff_iff]; simp
theorem nodeW_same {ns : List PNode} {n : PNode} (h : ∀ x ∈ n.f1, litOk x = true) : nodeW ns n = snodeW ns n := by
  unfold nodeW snodeW
  rw [Bool.eq_iff_iff, Bool.not_eq_true', List.any_eq_false, List.all_eq_true]
  constructor
  · intro hh x hx
    have := hh x hx
    rw [← watched_same ns _ (h x hx)]; simpa using this
  · intro hh x hx
    have := hh x hx
    rw [← watched_same ns _ (h x hx)] at this; simpa using this
theorem nodes_same (ns : List PNode) : snodesB ns = (areNodesB ns && ns.all (nodeW ns)) := by
  have e : snodesB ns = (areNodesB ns && ns.all (snodeW ns)) := by
    unfold snodesB areNodesB inB
    rw [snodes_from ns.length 0 (by omega), bne_dec, show rd_T120 ns 0 = ns.getD 0 z120 from rdN_nat ns 0]
    rw [show (decide ((1 : Int) ≤ (ns.length : Int)) && decide ((ns.length : Int) ≤ 7)) = (decide (1 ≤ ns.length) && decide (ns.length ≤ 7)) by rw [Bool.eq_iff_iff]; simp only [Bool.and_eq_true, decide_eq_true_eq]; omega]
    rw [show (!(decide (((ns.getD 0 z120).f1.length : Int) > 0))) = decide ((ns.getD 0 z120).f1.length = 0) by rw [Bool.eq_iff_iff]; simp only [Bool.not_eq_true', decide_eq_true_eq, decide_eq_false_iff_not]; omega]
  rw [e]
  cases h : areNodesB ns with
  | false => rfl
  | true =>
    rw [Bool.true_and, Bool.true_and, Bool.eq_iff_iff, List.all_eq_true, List.all_eq_true]
    constructor
    · intro hh n hn; rw [nodeW_same (areNodesB_lit h n hn)]; exact hh n hn
    · intro hh n hn; rw [← nodeW_same (areNodesB_lit h n hn)]; exact hh n hn
def stiesFrom (ns : List PNode) (ts : List PTie) (i : Nat) : Nat → Bool
  | 0 => true
  | d + 1 => tieB ns ts i && stiesFrom ns ts (i + 1) d
theorem in_same (n : Nat) (x : Int) : inB x 0 ((n : Int) - 1) = nodeIn n x := by
  unfold inB nodeIn
  rw [Bool.eq_iff_iff]; simp; omega
theorem tie_same {ns : List PNode} {ts : List PTie} {i : Nat} (h : i < ts.length) : tieB ns ts i = ptieB ns ts i := by
  unfold tieB ptieB
  have hs := getD_some h z126
  rw [rdT_nat]
  generalize ts.getD i z126 = t at hs
  obtain ⟨tf, tt, tl, th, tb⟩ := t
  show tieC tf tt tl th tb ns ts i = ptieC tf tt tl th tb ns ts i
  unfold tieC ptieC spanB
  rw [in_same, in_same]
  cases tb with
  | false =>
    rw [Bool.eq_iff_iff]
    simp only [Bool.not_false, Bool.true_or, Bool.and_true, Bool.and_eq_true, Bool.not_eq_true', beq_eq_false_iff_ne, decide_eq_true_eq, decide_eq_false_iff_not]
    constructor
    · rintro ⟨⟨⟨⟨⟨a1, a2⟩, a3⟩, a4⟩, a5⟩, a6⟩
      exact ⟨⟨⟨⟨⟨a1, a2⟩, a3⟩, by omega, by omega⟩, by omega, by omega⟩, a6⟩
    · rintro ⟨⟨⟨⟨⟨a1, a2⟩, a3⟩, a4, a5⟩, a6, a7⟩, a8⟩
      exact ⟨⟨⟨⟨⟨a1, a2⟩, a3⟩, by omega⟩, by omega⟩, a8⟩
  | true =>
    have hf : (freeI ts tt == (i : Int)) = !((ts.take i).any fun u => u.f4 && decide (u.f1 = tt)) := by
      rw [show (freeI ts tt == (i : Int)) = decide (freeI ts tt = (i : Int)) by rw [Bool.eq_iff_iff]; simp, freeI, idx_at _ ts i _ hs (by simp), Bool.eq_iff_iff]
      simp
      exact forall_congr' fun x => forall_congr' fun _ => by cases x.f4 <;> simp
    rw [hf]
    rw [Bool.eq_iff_iff]
    simp only [Bool.not_true, Bool.false_or, Bool.and_eq_true, Bool.not_eq_true', beq_eq_false_iff_ne, decide_eq_true_eq, decide_eq_false_iff_not, beq_iff_eq, bne_eq_false_iff_eq]
    constructor
    · rintro ⟨⟨⟨⟨⟨⟨a1, a2⟩, a3⟩, a4⟩, a5⟩, a6⟩, ⟨⟨⟨⟨b1, b2⟩, b3⟩, b4⟩, b5⟩⟩
      exact ⟨⟨⟨⟨⟨⟨a1, a2⟩, a3⟩, by omega, by omega⟩, by omega, by omega⟩, a6⟩, ⟨⟨⟨⟨by omega, b2⟩, b3⟩, b4.symm⟩, b5⟩⟩
    · rintro ⟨⟨⟨⟨⟨⟨a1, a2⟩, a3⟩, a4, a5⟩, a6, a7⟩, a8⟩, ⟨⟨⟨⟨b1, b2⟩, b3⟩, b4⟩, b5⟩⟩
      exact ⟨⟨⟨⟨⟨⟨a1, a2⟩, a3⟩, by omega⟩, by omega⟩, a8⟩, ⟨⟨⟨⟨by omega, b2⟩, b3⟩, b4.symm⟩, b5⟩⟩
theorem ties_from {ns : List PNode} {ts : List PTie} : ∀ (d i : Nat), i + d = ts.length → stiesFrom ns ts i d = tiesFrom ns ts i d
  | 0, _, _ => rfl
  | d + 1, i, h => by rw [stiesFrom, tiesFrom, tie_same (by omega), ties_from d (i + 1) (by omega)]
theorem spec_ShowOk_l (ns : List PNode) (ts : List PTie) (z : Int) (ht : ts.length ≤ 14) : ∀ (d i k : Nat), i + d = ts.length → d < k → spec_ShowOk.l0 k ts.length (i : Int) ns ts z = some (stiesFrom ns ts i d) := by
  intro d
  induction d with
  | zero =>
    intro i k hi hk
    obtain ⟨m, rfl⟩ : ∃ m, k = m + 1 := ⟨k - 1, by omega⟩
    simp only [spec_ShowOk.l0]
    rw [if_neg (by omega)]; rfl
  | succ d ih =>
    intro i k hi hk
    obtain ⟨m, rfl⟩ : ∃ m, k = m + 1 := ⟨k - 1, by omega⟩
    simp only [spec_ShowOk.l0]
    rw [if_pos (by omega), spec_l08Tie.f, if_pos (by omega), Option.bind_some, stiesFrom, wrap_nat (n := ts.length) (by omega) (by omega), ih (i + 1) m (by omega) (by omega)]
    cases tieB ns ts i <;> rfl
theorem spec_ShowOk_f (ns : List PNode) (ts : List PTie) (z : Int) (hf : fitN ns = true) (k : Nat) (hk : 2 ^ 64 ≤ k) : spec_ShowOk.f k ns ts z = some (pshowB ns ts z) := by
  obtain ⟨m, rfl⟩ : ∃ m, k = m + 1 := ⟨k - 1, by omega⟩
  unfold spec_ShowOk.f spec_l08Nodes.f pshowB areTiesB
  rw [if_pos hf, Option.bind_some, nodes_same]
  simp only [spec_ShowOk.j0, l01In_f, Option.bind_some, if_true]
  cases h1 : areNodesB ns with
  | false => rfl
  | true =>
    cases h2 : ns.all (nodeW ns) with
    | false => simp
    | true =>
      rw [Bool.and_true, if_pos rfl]
      by_cases h3 : (ts.length : Int) > 14
      · rw [if_pos h3, decide_eq_false (show ¬ ts.length ≤ 14 by omega)]; simp
      · rw [if_neg h3, decide_eq_true (show ts.length ≤ 14 by omega)]
        have hl := spec_ShowOk_l ns ts z (by omega) ts.length 0 m (by omega) (by omega)
        rw [show ((0 : Nat) : Int) = 0 from rfl] at hl
        rw [hl, ties_from _ _ (by omega)]
        by_cases h4 : z < 1
        · rw [show inB z 1 10 = false by unfold inB; rw [decide_eq_false (show ¬ (1 : Int) ≤ z by omega)]; rfl, decide_eq_true h4]; simp
        · by_cases h5 : 10 < z
          · rw [show inB z 1 10 = false by unfold inB; rw [decide_eq_false (show ¬ z ≤ (10 : Int) by omega)]; simp, decide_eq_true h5]; simp
          · rw [show inB z 1 10 = true by unfold inB; rw [decide_eq_true (show (1 : Int) ≤ z by omega), decide_eq_true (show z ≤ (10 : Int) by omega)]; rfl, decide_eq_false h4, decide_eq_false h5]; simp
theorem fitN_of {ns : List PNode} {ts : List PTie} (h : SmallP ns ts) : fitN ns = true := by
  unfold fitN
  rw [List.all_eq_true]
  intro n hn
  have := h.2.2 n hn
  simp; omega
theorem impl_ShowOk_f {ns : List PNode} {ts : List PTie} {z : Int} (hf : fitN ns = true) : impl_ShowOk.f ns ts z = some (pshowB ns ts z) := by
  unfold impl_ShowOk.f
  rw [if_pos hf]
end Go.Proofs.Ytpoffpdaadhkgaa.Pr

namespace Go.Proofs.Ytpoffpdaadhkgaa.Pr
open Go.RowKit Go.Proofs.YtpoffpdaadhkgaaW.PrintWords Go.Proofs.Ytpoffpdaadhkgaa.Ni
theorem pshowB_nodes {ns : List PNode} {ts : List PTie} {z : Int} (h : pshowB ns ts z = true) : areNodesB ns = true := by
  unfold pshowB at h
  simp only [Bool.and_eq_true] at h
  exact h.1.1.1.1
theorem pshowB_ties {ns : List PNode} {ts : List PTie} {z : Int} (h : pshowB ns ts z = true) : areTiesB ns ts = true := by
  unfold pshowB at h
  simp only [Bool.and_eq_true] at h
  exact h.1.1.1.2
theorem nodes_watch {ns : List PNode} (h : areNodesB ns = true) : ∀ n ∈ ns, 0 ≤ n.f2 ∧ n.f2 ≤ 3 := by
  intro n hn
  obtain ⟨j, hj, rfl⟩ := List.mem_iff_getElem.1 hn
  have := areNodesB_at h j hj
  unfold nodeAt nodeB at this
  rw [show ns.getD j z120 = ns[j] by rw [List.getD_eq_getElem?_getD, List.getElem?_eq_getElem hj]; rfl] at this
  simp only [Bool.and_eq_true, decide_eq_true_eq] at this
  exact this.1.2
theorem pwatch_out {ns : List PNode} (h : areNodesB ns = true) {p : Int} (hp : ¬ (1 ≤ p ∧ p ≤ 3)) : pwatchI ns p = -1 := by
  unfold pwatchI
  refine idxOf_miss _ _ fun j y _ hy => ?_
  have := nodes_watch h y (List.mem_of_getElem? hy)
  rw [Bool.eq_false_iff]
  intro hh
  simp only [Bool.and_eq_true, decide_eq_true_eq] at hh
  omega
end Go.Proofs.Ytpoffpdaadhkgaa.Pr

