/- The texts of one claim, put together by a program of this session. -/
import Derived.Test.YtodfnelilhjoeaaBAcc1x1
import Derived.Test.YtodfnelilhjoeaaBAcc1x2
namespace Go.Proofs.Ytodfnelilhjoeaa.Pr
open Go.RowKit Go.Proofs.YtodfnelilhjoeaaW.PrintWords Go.Proofs.YtodfnelilhjoeaaW.PrintLast Go.Proofs.YtodfnelilhjoeaaW.PrintMore
attribute [local go_sem] max2_int min2_int max_two min_two max_three min_three max_four min_four
set_option linter.unusedVariables false
set_option linter.unusedSimpArgs false

/-! ### impl_IsName: function 175 -/
def impl_IsName.l0 : Nat → ByteArray → Int → Option (Bool)
 | 0, _, _ => none
 | k + 1, x0, x3 => if x3 < (x0.size : Int) then (if 0 ≤ x3 then (if (bt x0 x3) ≥ 97 then (if (bt x0 x3) ≥ 48 then (if ((bt x0 x3) ≤ 122) then (impl_IsName.l0 k x0 (wrap64 (x3 + 1))) else (if ((bt x0 x3) ≤ 57) then (if x3 = 0 then (some false) else (impl_IsName.l0 k x0 (wrap64 (x3 + 1)))) else (some false))) else (if ((bt x0 x3) ≤ 122) then (impl_IsName.l0 k x0 (wrap64 (x3 + 1))) else (some false))) else (if (bt x0 x3) ≥ 48 then (if ((bt x0 x3) ≤ 57) then (if x3 = 0 then (some false) else (impl_IsName.l0 k x0 (wrap64 (x3 + 1)))) else (some false)) else (some false))) else (none)) else (if (x0.size : Int) ≥ 1 then (some (decide ((x0.size : Int) ≤ 8))) else (some false))
def impl_IsName.f (k : Nat) (a0 : ByteArray) : Option (Bool) := impl_IsName.l0 k a0 0
set_option maxHeartbeats 8000000 in
set_option maxRecDepth 100000 in
theorem impl_IsName.calls (k : Nat) (a0 : ByteArray) (r : Bool) (w : World) (h : impl_IsName.f k a0 = some r) :
  Calls Try.prog 175 #[.string a0] w fun e w' => e = .returned (.bool r) ∧ Drawn0 w w' := by
 have H : (impl_IsName.l0 k a0 0) = some r := h
 clear h
 have H' := Aside0.mk H
 clear H
 go_enter Try.func175, Try.ntmps175
 go_wp2
 repeat (go_quiet (fail); try go_wp2)
 go_loopg [3] k (fun kq v3 w' => ∃ (x3_1 : Int), v3 = .int .i64 x3_1 ∧ Aside0 (impl_IsName.l0 kq a0 x3_1 = some r) ∧ Aside0 (kq ≤ k) ∧ Drawn0 w w')
 case atStart => exact ⟨(0), (by first | rfl | (simp; done) | (simp [*]; done)), H', ⟨Nat.le_refl _⟩, by repeat (first | exact Drawn0.refl _ | apply Drawn0.step)⟩
 case round =>
  clear H'
  try clear c1
  obtain ⟨x3_1, rfl, HA, HK1, ⟨m1, rfl⟩⟩ := hrel
  cases gk with
  | zero => exact absurd HA.out (by simp [impl_IsName.l0])
  | succ k1 =>
   have H := HA.out
   clear HA
   simp only [impl_IsName.l0] at H
   by_cases c2 : x3_1 < (a0.size : Int)
   ·rw [if_pos c2] at H
    have c2b0 : decide (x3_1 < (a0.size : Int)) = true := decide_eq_true c2
    clear c2
    by_cases c3 : 0 ≤ x3_1
    ·rw [if_pos c3] at H
     have c3b0 : decide (0 ≤ x3_1) = true := decide_eq_true c3
     clear c3
     by_cases c5 : (bt a0 x3_1) ≥ 97
     ·rw [if_pos c5] at H
      have c5b0 : decide (97 ≤ (bt a0 x3_1)) = true := decide_eq_true c5
      clear c5
      by_cases c8 : (bt a0 x3_1) ≥ 48
      ·rw [if_pos c8] at H
       have c8b0 : decide (48 ≤ (bt a0 x3_1)) = true := decide_eq_true c8
       clear c8
       by_cases c10 : ((bt a0 x3_1) ≤ 122)
       ·rw [if_pos c10] at H
        have c10b0 : decide ((bt a0 x3_1) ≤ 122) = true := decide_eq_true c10
        clear c10
        have H' := Aside0.mk H
        clear H
        have p4 : 0 ≤ (x3_1 : Int) := of_decide_eq_true (by first | (with_reducible assumption) | assumption)
        have q4 : x3_1 < (a0.size : Int) := of_decide_eq_true (by first | (with_reducible assumption) | assumption)
        have hx4 := bt_at a0 x3_1
        replace p4 := eq_true p4
        replace q4 := eq_true q4
        have p6 : 0 ≤ (x3_1 : Int) := of_decide_eq_true (by first | (with_reducible assumption) | assumption)
        have q6 : x3_1 < (a0.size : Int) := of_decide_eq_true (by first | (with_reducible assumption) | assumption)
        have hx6 := bt_at a0 x3_1
        replace p6 := eq_true p6
        replace q6 := eq_true q6
        have p7 : 0 ≤ (x3_1 : Int) := of_decide_eq_true (by first | (with_reducible assumption) | assumption)
        have q7 : x3_1 < (a0.size : Int) := of_decide_eq_true (by first | (with_reducible assumption) | assumption)
        have hx7 := bt_at a0 x3_1
        replace p7 := eq_true p7
        replace q7 := eq_true q7
        have p9 : 0 ≤ (x3_1 : Int) := of_decide_eq_true (by first | (with_reducible assumption) | assumption)
        have q9 : x3_1 < (a0.size : Int) := of_decide_eq_true (by first | (with_reducible assumption) | assumption)
        have hx9 := bt_at a0 x3_1
        replace p9 := eq_true p9
        replace q9 := eq_true q9
        go_wp2
        repeat (go_quiet (fail); try go_wp2)
        go_roundg k1
        case measure => have := HK1.out; omega
        case rel => exact ⟨(wrap64 (x3_1 + 1)), (by first | rfl | (simp; done) | (simp [*]; done)), H', ⟨by have := HK1.out; omega⟩, by repeat (first | exact Drawn0.refl _ | apply Drawn0.step)⟩
       ·rw [if_neg c10] at H
        have c10b0 : decide ((bt a0 x3_1) ≤ 122) = false := decide_eq_false c10
        clear c10
        by_cases c11 : ((bt a0 x3_1) ≤ 57)
        ·rw [if_pos c11] at H
         have c11b0 : decide ((bt a0 x3_1) ≤ 57) = true := decide_eq_true c11
         clear c11
         by_cases c12 : x3_1 = 0
         ·rw [if_pos c12] at H
          have c12b0 : (x3_1 == 0) = true := beq_iff_eq.mpr c12
          have c12b1 : (x3_1 != 0) = false := bne_eq_false_iff_eq.mpr c12
          clear c12
          obtain rfl := Option.some.inj H
          have p4 : 0 ≤ (x3_1 : Int) := of_decide_eq_true (by first | (with_reducible assumption) | assumption)
          have q4 : x3_1 < (a0.size : Int) := of_decide_eq_true (by first | (with_reducible assumption) | assumption)
          have hx4 := bt_at a0 x3_1
          replace p4 := eq_true p4
          replace q4 := eq_true q4
          have p6 : 0 ≤ (x3_1 : Int) := of_decide_eq_true (by first | (with_reducible assumption) | assumption)
          have q6 : x3_1 < (a0.size : Int) := of_decide_eq_true (by first | (with_reducible assumption) | assumption)
          have hx6 := bt_at a0 x3_1
          replace p6 := eq_true p6
          replace q6 := eq_true q6
          have p7 : 0 ≤ (x3_1 : Int) := of_decide_eq_true (by first | (with_reducible assumption) | assumption)
          have q7 : x3_1 < (a0.size : Int) := of_decide_eq_true (by first | (with_reducible assumption) | assumption)
          have hx7 := bt_at a0 x3_1
          replace p7 := eq_true p7
          replace q7 := eq_true q7
          have p9 : 0 ≤ (x3_1 : Int) := of_decide_eq_true (by first | (with_reducible assumption) | assumption)
          have q9 : x3_1 < (a0.size : Int) := of_decide_eq_true (by first | (with_reducible assumption) | assumption)
          have hx9 := bt_at a0 x3_1
          replace p9 := eq_true p9
          replace q9 := eq_true q9
          go_wp2
          repeat (go_quiet (fail); try go_wp2)
          go_ret
          exact ⟨by first | rfl | (simp; done) | (simp [*]; done), by repeat (first | exact Drawn0.refl _ | apply Drawn0.step)⟩
         ·rw [if_neg c12] at H
          have c12b0 : (x3_1 == 0) = false := beq_eq_false_iff_ne.mpr c12
          have c12b1 : (x3_1 != 0) = true := bne_iff_ne.mpr c12
          have H' := Aside0.mk H
          clear H
          have p4 : 0 ≤ (x3_1 : Int) := of_decide_eq_true (by first | (with_reducible assumption) | assumption)
          have q4 : x3_1 < (a0.size : Int) := of_decide_eq_true (by first | (with_reducible assumption) | assumption)
          have hx4 := bt_at a0 x3_1
          replace p4 := eq_true p4
          replace q4 := eq_true q4
          have p6 : 0 ≤ (x3_1 : Int) := of_decide_eq_true (by first | (with_reducible assumption) | assumption)
          have q6 : x3_1 < (a0.size : Int) := of_decide_eq_true (by first | (with_reducible assumption) | assumption)
          have hx6 := bt_at a0 x3_1
          replace p6 := eq_true p6
          replace q6 := eq_true q6
          have p7 : 0 ≤ (x3_1 : Int) := of_decide_eq_true (by first | (with_reducible assumption) | assumption)
          have q7 : x3_1 < (a0.size : Int) := of_decide_eq_true (by first | (with_reducible assumption) | assumption)
          have hx7 := bt_at a0 x3_1
          replace p7 := eq_true p7
          replace q7 := eq_true q7
          have p9 : 0 ≤ (x3_1 : Int) := of_decide_eq_true (by first | (with_reducible assumption) | assumption)
          have q9 : x3_1 < (a0.size : Int) := of_decide_eq_true (by first | (with_reducible assumption) | assumption)
          have hx9 := bt_at a0 x3_1
          replace p9 := eq_true p9
          replace q9 := eq_true q9
          go_wp2
          repeat (go_quiet (fail); try go_wp2)
          go_roundg k1
          case measure => have := HK1.out; omega
          case rel => exact ⟨(wrap64 (x3_1 + 1)), (by first | rfl | (simp; done) | (simp [*]; done)), H', ⟨by have := HK1.out; omega⟩, by repeat (first | exact Drawn0.refl _ | apply Drawn0.step)⟩
        ·rw [if_neg c11] at H
         have c11b0 : decide ((bt a0 x3_1) ≤ 57) = false := decide_eq_false c11
         clear c11
         obtain rfl := Option.some.inj H
         have p4 : 0 ≤ (x3_1 : Int) := of_decide_eq_true (by first | (with_reducible assumption) | assumption)
         have q4 : x3_1 < (a0.size : Int) := of_decide_eq_true (by first | (with_reducible assumption) | assumption)
         have hx4 := bt_at a0 x3_1
         replace p4 := eq_true p4
         replace q4 := eq_true q4
         have p6 : 0 ≤ (x3_1 : Int) := of_decide_eq_true (by first | (with_reducible assumption) | assumption)
         have q6 : x3_1 < (a0.size : Int) := of_decide_eq_true (by first | (with_reducible assumption) | assumption)
         have hx6 := bt_at a0 x3_1
         replace p6 := eq_true p6
         replace q6 := eq_true q6
         have p7 : 0 ≤ (x3_1 : Int) := of_decide_eq_true (by first | (with_reducible assumption) | assumption)
         have q7 : x3_1 < (a0.size : Int) := of_decide_eq_true (by first | (with_reducible assumption) | assumption)
         have hx7 := bt_at a0 x3_1
         replace p7 := eq_true p7
         replace q7 := eq_true q7
         have p9 : 0 ≤ (x3_1 : Int) := of_decide_eq_true (by first | (with_reducible assumption) | assumption)
         have q9 : x3_1 < (a0.size : Int) := of_decide_eq_true (by first | (with_reducible assumption) | assumption)
         have hx9 := bt_at a0 x3_1
         replace p9 := eq_true p9
         replace q9 := eq_true q9
         go_wp2
         repeat (go_quiet (fail); try go_wp2)
         go_ret
         exact ⟨by first | rfl | (simp; done) | (simp [*]; done), by repeat (first | exact Drawn0.refl _ | apply Drawn0.step)⟩
      ·rw [if_neg c8] at H
       have c8b0 : decide (48 ≤ (bt a0 x3_1)) = false := decide_eq_false c8
       clear c8
       by_cases c13 : ((bt a0 x3_1) ≤ 122)
       ·rw [if_pos c13] at H
        have c13b0 : decide ((bt a0 x3_1) ≤ 122) = true := decide_eq_true c13
        clear c13
        have H' := Aside0.mk H
        clear H
        have p4 : 0 ≤ (x3_1 : Int) := of_decide_eq_true (by first | (with_reducible assumption) | assumption)
        have q4 : x3_1 < (a0.size : Int) := of_decide_eq_true (by first | (with_reducible assumption) | assumption)
        have hx4 := bt_at a0 x3_1
        replace p4 := eq_true p4
        replace q4 := eq_true q4
        have p6 : 0 ≤ (x3_1 : Int) := of_decide_eq_true (by first | (with_reducible assumption) | assumption)
        have q6 : x3_1 < (a0.size : Int) := of_decide_eq_true (by first | (with_reducible assumption) | assumption)
        have hx6 := bt_at a0 x3_1
        replace p6 := eq_true p6
        replace q6 := eq_true q6
        have p7 : 0 ≤ (x3_1 : Int) := of_decide_eq_true (by first | (with_reducible assumption) | assumption)
        have q7 : x3_1 < (a0.size : Int) := of_decide_eq_true (by first | (with_reducible assumption) | assumption)
        have hx7 := bt_at a0 x3_1
        replace p7 := eq_true p7
        replace q7 := eq_true q7
        go_wp2
        repeat (go_quiet (fail); try go_wp2)
        go_roundg k1
        case measure => have := HK1.out; omega
        case rel => exact ⟨(wrap64 (x3_1 + 1)), (by first | rfl | (simp; done) | (simp [*]; done)), H', ⟨by have := HK1.out; omega⟩, by repeat (first | exact Drawn0.refl _ | apply Drawn0.step)⟩
       ·rw [if_neg c13] at H
        have c13b0 : decide ((bt a0 x3_1) ≤ 122) = false := decide_eq_false c13
        clear c13
        obtain rfl := Option.some.inj H
        have p4 : 0 ≤ (x3_1 : Int) := of_decide_eq_true (by first | (with_reducible assumption) | assumption)
        have q4 : x3_1 < (a0.size : Int) := of_decide_eq_true (by first | (with_reducible assumption) | assumption)
        have hx4 := bt_at a0 x3_1
        replace p4 := eq_true p4
        replace q4 := eq_true q4
        have p6 : 0 ≤ (x3_1 : Int) := of_decide_eq_true (by first | (with_reducible assumption) | assumption)
        have q6 : x3_1 < (a0.size : Int) := of_decide_eq_true (by first | (with_reducible assumption) | assumption)
        have hx6 := bt_at a0 x3_1
        replace p6 := eq_true p6
        replace q6 := eq_true q6
        have p7 : 0 ≤ (x3_1 : Int) := of_decide_eq_true (by first | (with_reducible assumption) | assumption)
        have q7 : x3_1 < (a0.size : Int) := of_decide_eq_true (by first | (with_reducible assumption) | assumption)
        have hx7 := bt_at a0 x3_1
        replace p7 := eq_true p7
        replace q7 := eq_true q7
        go_wp2
        repeat (go_quiet (fail); try go_wp2)
        go_ret
        exact ⟨by first | rfl | (simp; done) | (simp [*]; done), by repeat (first | exact Drawn0.refl _ | apply Drawn0.step)⟩
     ·rw [if_neg c5] at H
      have c5b0 : decide (97 ≤ (bt a0 x3_1)) = false := decide_eq_false c5
      clear c5
      by_cases c15 : (bt a0 x3_1) ≥ 48
      ·rw [if_pos c15] at H
       have c15b0 : decide (48 ≤ (bt a0 x3_1)) = true := decide_eq_true c15
       clear c15
       by_cases c17 : ((bt a0 x3_1) ≤ 57)
       ·rw [if_pos c17] at H
        have c17b0 : decide ((bt a0 x3_1) ≤ 57) = true := decide_eq_true c17
        clear c17
        by_cases c18 : x3_1 = 0
        ·rw [if_pos c18] at H
         have c18b0 : (x3_1 == 0) = true := beq_iff_eq.mpr c18
         have c18b1 : (x3_1 != 0) = false := bne_eq_false_iff_eq.mpr c18
         clear c18
         obtain rfl := Option.some.inj H
         have p4 : 0 ≤ (x3_1 : Int) := of_decide_eq_true (by first | (with_reducible assumption) | assumption)
         have q4 : x3_1 < (a0.size : Int) := of_decide_eq_true (by first | (with_reducible assumption) | assumption)
         have hx4 := bt_at a0 x3_1
         replace p4 := eq_true p4
         replace q4 := eq_true q4
         have p14 : 0 ≤ (x3_1 : Int) := of_decide_eq_true (by first | (with_reducible assumption) | assumption)
         have q14 : x3_1 < (a0.size : Int) := of_decide_eq_true (by first | (with_reducible assumption) | assumption)
         have hx14 := bt_at a0 x3_1
         replace p14 := eq_true p14
         replace q14 := eq_true q14
         have p16 : 0 ≤ (x3_1 : Int) := of_decide_eq_true (by first | (with_reducible assumption) | assumption)
         have q16 : x3_1 < (a0.size : Int) := of_decide_eq_true (by first | (with_reducible assumption) | assumption)
         have hx16 := bt_at a0 x3_1
         replace p16 := eq_true p16
         replace q16 := eq_true q16
         go_wp2
         repeat (go_quiet (fail); try go_wp2)
         go_ret
         exact ⟨by first | rfl | (simp; done) | (simp [*]; done), by repeat (first | exact Drawn0.refl _ | apply Drawn0.step)⟩
        ·rw [if_neg c18] at H
         have c18b0 : (x3_1 == 0) = false := beq_eq_false_iff_ne.mpr c18
         have c18b1 : (x3_1 != 0) = true := bne_iff_ne.mpr c18
         have H' := Aside0.mk H
         clear H
         have p4 : 0 ≤ (x3_1 : Int) := of_decide_eq_true (by first | (with_reducible assumption) | assumption)
         have q4 : x3_1 < (a0.size : Int) := of_decide_eq_true (by first | (with_reducible assumption) | assumption)
         have hx4 := bt_at a0 x3_1
         replace p4 := eq_true p4
         replace q4 := eq_true q4
         have p14 : 0 ≤ (x3_1 : Int) := of_decide_eq_true (by first | (with_reducible assumption) | assumption)
         have q14 : x3_1 < (a0.size : Int) := of_decide_eq_true (by first | (with_reducible assumption) | assumption)
         have hx14 := bt_at a0 x3_1
         replace p14 := eq_true p14
         replace q14 := eq_true q14
         have p16 : 0 ≤ (x3_1 : Int) := of_decide_eq_true (by first | (with_reducible assumption) | assumption)
         have q16 : x3_1 < (a0.size : Int) := of_decide_eq_true (by first | (with_reducible assumption) | assumption)
         have hx16 := bt_at a0 x3_1
         replace p16 := eq_true p16
         replace q16 := eq_true q16
         go_wp2
         repeat (go_quiet (fail); try go_wp2)
         go_roundg k1
         case measure => have := HK1.out; omega
         case rel => exact ⟨(wrap64 (x3_1 + 1)), (by first | rfl | (simp; done) | (simp [*]; done)), H', ⟨by have := HK1.out; omega⟩, by repeat (first | exact Drawn0.refl _ | apply Drawn0.step)⟩
       ·rw [if_neg c17] at H
        have c17b0 : decide ((bt a0 x3_1) ≤ 57) = false := decide_eq_false c17
        clear c17
        obtain rfl := Option.some.inj H
        have p4 : 0 ≤ (x3_1 : Int) := of_decide_eq_true (by first | (with_reducible assumption) | assumption)
        have q4 : x3_1 < (a0.size : Int) := of_decide_eq_true (by first | (with_reducible assumption) | assumption)
        have hx4 := bt_at a0 x3_1
        replace p4 := eq_true p4
        replace q4 := eq_true q4
        have p14 : 0 ≤ (x3_1 : Int) := of_decide_eq_true (by first | (with_reducible assumption) | assumption)
        have q14 : x3_1 < (a0.size : Int) := of_decide_eq_true (by first | (with_reducible assumption) | assumption)
        have hx14 := bt_at a0 x3_1
        replace p14 := eq_true p14
        replace q14 := eq_true q14
        have p16 : 0 ≤ (x3_1 : Int) := of_decide_eq_true (by first | (with_reducible assumption) | assumption)
        have q16 : x3_1 < (a0.size : Int) := of_decide_eq_true (by first | (with_reducible assumption) | assumption)
        have hx16 := bt_at a0 x3_1
        replace p16 := eq_true p16
        replace q16 := eq_true q16
        go_wp2
        repeat (go_quiet (fail); try go_wp2)
        go_ret
        exact ⟨by first | rfl | (simp; done) | (simp [*]; done), by repeat (first | exact Drawn0.refl _ | apply Drawn0.step)⟩
      ·rw [if_neg c15] at H
       have c15b0 : decide (48 ≤ (bt a0 x3_1)) = false := decide_eq_false c15
       clear c15
       obtain rfl := Option.some.inj H
       have p4 : 0 ≤ (x3_1 : Int) := of_decide_eq_true (by first | (with_reducible assumption) | assumption)
       have q4 : x3_1 < (a0.size : Int) := of_decide_eq_true (by first | (with_reducible assumption) | assumption)
       have hx4 := bt_at a0 x3_1
       replace p4 := eq_true p4
       replace q4 := eq_true q4
       have p14 : 0 ≤ (x3_1 : Int) := of_decide_eq_true (by first | (with_reducible assumption) | assumption)
       have q14 : x3_1 < (a0.size : Int) := of_decide_eq_true (by first | (with_reducible assumption) | assumption)
       have hx14 := bt_at a0 x3_1
       replace p14 := eq_true p14
       replace q14 := eq_true q14
       go_wp2
       repeat (go_quiet (fail); try go_wp2)
       go_ret
       exact ⟨by first | rfl | (simp; done) | (simp [*]; done), by repeat (first | exact Drawn0.refl _ | apply Drawn0.step)⟩
    ·rw [if_neg c3] at H
     exact absurd H (by simp)
   ·rw [if_neg c2] at H
    have c2b0 : decide (x3_1 < (a0.size : Int)) = false := decide_eq_false c2
    clear c2
    by_cases c19 : (a0.size : Int) ≥ 1
    ·rw [if_pos c19] at H
     have c19b0 : decide (1 ≤ (a0.size : Int)) = true := decide_eq_true c19
     have c19b1 : decide (1 ≤ a0.size) = true := decide_eq_true (by omega)
     clear c19
     obtain rfl := Option.some.inj H
     go_wp2
     repeat (go_quiet (fail); try go_wp2)
     go_ret
     exact ⟨by first | rfl | (simp; done) | (simp [*]; done), by repeat (first | exact Drawn0.refl _ | apply Drawn0.step)⟩
    ·rw [if_neg c19] at H
     have c19b0 : decide (1 ≤ (a0.size : Int)) = false := decide_eq_false c19
     have c19b1 : decide (1 ≤ a0.size) = false := decide_eq_false (by omega)
     clear c19
     obtain rfl := Option.some.inj H
     go_wp2
     repeat (go_quiet (fail); try go_wp2)
     go_ret
     exact ⟨by first | rfl | (simp; done) | (simp [*]; done), by repeat (first | exact Drawn0.refl _ | apply Drawn0.step)⟩

end Go.Proofs.Ytodfnelilhjoeaa.Pr

namespace Go.Proofs.Ytodfnelilhjoeaa.Pr
open Go.RowKit Go.Proofs.YtodfnelilhjoeaaW.PrintWords Go.Proofs.Ytodfnelilhjoeaa.Ni
def chB (s : ByteArray) (i : Nat) : Bool := (decide (97 ≤ bt s i) && decide (bt s i ≤ 122)) || (decide (0 < i) && decide (48 ≤ bt s i) && decide (bt s i ≤ 57))
def chsB (s : ByteArray) (i : Nat) : Nat → Bool
 | 0 => true
 | d + 1 => chB s i && chsB s (i + 1) d
def nameB (s : ByteArray) : Bool := chsB s 0 s.size && (decide (1 ≤ s.size) && decide (s.size ≤ 8))
theorem spec_IsName_f (s : ByteArray) (hs : s.size ≤ 9223372036854775807) (k : Nat) (hk : 2 ^ 64 ≤ k) : spec_IsName.f k s = some (nameB s) := by
 have key := loop_up s.size (fun k i => spec_IsName.l0 k s (i : Int) = some (chsB s i (s.size - i) && (decide (1 ≤ s.size) && decide (s.size ≤ 8)))) 0
  (fun k _ => by
   simp only [spec_IsName.l0]
   rw [if_neg (by omega), Nat.sub_self]
   unfold spec_l01In.f chsB
   by_cases h1 : 1 ≤ s.size
   ·rw [if_pos (by omega), decide_eq_true h1]
    simp only [Option.bind_some, Bool.true_and]
    congr 1
    rw [Bool.eq_iff_iff]; simp; omega
   ·rw [if_neg (by omega), decide_eq_false h1]; rfl)
  (fun k i _ hi ih => by
   simp only [spec_IsName.l0]
   rw [if_pos (by omega), if_pos (by omega), wrap_nat hi (by omega), ih, show chsB s i (s.size - i) = (chB s i && chsB s (i + 1) (s.size - (i + 1))) by rw [show s.size - i = (s.size - (i + 1)) + 1 by omega]; rfl]
   have hF : chB s i = false → (chB s i && chsB s (i + 1) (s.size - (i + 1)) && (decide (1 ≤ s.size) && decide (s.size ≤ 8))) = false := fun h => by rw [h]; rfl
   have hT : chB s i = true → (chB s i && chsB s (i + 1) (s.size - (i + 1)) && (decide (1 ≤ s.size) && decide (s.size ≤ 8))) = (chsB s (i + 1) (s.size - (i + 1)) && (decide (1 ≤ s.size) && decide (s.size ≤ 8))) := fun h => by rw [h, Bool.true_and]
   generalize hc : bt s (i : Int) = c at *
   have hch : chB s i = ((decide (97 ≤ c) && decide (c ≤ 122)) || (decide (0 < i) && decide (48 ≤ c) && decide (c ≤ 57))) := by unfold chB; rw [hc]
   by_cases a1 : c ≥ 97
   ·rw [if_pos a1]
    by_cases a2 : c ≤ 122
    ·rw [if_pos a2, hT (by rw [hch]; simp; omega)]
    ·rw [if_neg a2, hF (by rw [hch]; simp; omega)]
     split
     ·rfl
     ·split
      ·rfl
      ·rw [if_pos (by omega)]
   ·rw [if_neg a1]
    by_cases b0 : (i : Int) = 0
    ·rw [if_pos b0, hF (by rw [hch]; simp; omega)]
    ·rw [if_neg b0]
     by_cases b1 : c < 48
     ·rw [if_pos b1, hF (by rw [hch]; simp; omega)]
     ·rw [if_neg b1]
      by_cases b2 : c > 57
      ·rw [if_pos b2, hF (by rw [hch]; simp; omega)]
      ·rw [if_neg b2, hT (by rw [hch]; simp; omega)]) 0 k (Nat.zero_le _) (by omega)
 unfold spec_IsName.f nameB
 simpa using key
theorem impl_IsName_f (s : ByteArray) (hs : s.size ≤ 9223372036854775807) (k : Nat) (hk : 2 ^ 64 ≤ k) : impl_IsName.f k s = some (nameB s) := by
 have key := loop_up s.size (fun k i => impl_IsName.l0 k s (i : Int) = some (chsB s i (s.size - i) && (decide (1 ≤ s.size) && decide (s.size ≤ 8)))) 0
  (fun k _ => by
   simp only [impl_IsName.l0]
   rw [if_neg (by omega), Nat.sub_self]
   unfold chsB
   by_cases h1 : 1 ≤ s.size
   ·rw [if_pos (by omega), decide_eq_true h1]
    simp only [Bool.true_and]
    congr 1
    rw [Bool.eq_iff_iff]; simp; omega
   ·rw [if_neg (by omega), decide_eq_false h1]; rfl)
  (fun k i _ hi ih => by
   simp only [impl_IsName.l0]
   rw [if_pos (by omega), if_pos (by omega), wrap_nat hi (by omega), ih, show chsB s i (s.size - i) = (chB s i && chsB s (i + 1) (s.size - (i + 1))) by rw [show s.size - i = (s.size - (i + 1)) + 1 by omega]; rfl]
   have hF : chB s i = false → (chB s i && chsB s (i + 1) (s.size - (i + 1)) && (decide (1 ≤ s.size) && decide (s.size ≤ 8))) = false := fun h => by rw [h]; rfl
   have hT : chB s i = true → (chB s i && chsB s (i + 1) (s.size - (i + 1)) && (decide (1 ≤ s.size) && decide (s.size ≤ 8))) = (chsB s (i + 1) (s.size - (i + 1)) && (decide (1 ≤ s.size) && decide (s.size ≤ 8))) := fun h => by rw [h, Bool.true_and]
   generalize hc : bt s (i : Int) = c at *
   have hch : chB s i = ((decide (97 ≤ c) && decide (c ≤ 122)) || (decide (0 < i) && decide (48 ≤ c) && decide (c ≤ 57))) := by unfold chB; rw [hc]
   by_cases a1 : c ≥ 97
   ·rw [if_pos a1, if_pos (by omega)]
    by_cases a2 : c ≤ 122
    ·rw [if_pos a2, hT (by rw [hch]; simp; omega)]
    ·rw [if_neg a2, if_neg (by omega), hF (by rw [hch]; simp; omega)]
   ·rw [if_neg a1]
    by_cases b1 : c ≥ 48
    ·rw [if_pos b1]
     by_cases b2 : c ≤ 57
     ·rw [if_pos b2]
      by_cases b0 : (i : Int) = 0
      ·rw [if_pos b0, hF (by rw [hch]; simp; omega)]
      ·rw [if_neg b0, hT (by rw [hch]; simp; omega)]
     ·rw [if_neg b2, hF (by rw [hch]; simp; omega)]
    ·rw [if_neg b1, hF (by rw [hch]; simp; omega)]) 0 k (Nat.zero_le _) (by omega)
 unfold impl_IsName.f nameB
 simpa using key
end Go.Proofs.Ytodfnelilhjoeaa.Pr

namespace Go.Proofs.Ytodfnelilhjoeaa.Pr
open Go.RowKit Go.Proofs.YtodfnelilhjoeaaW.PrintWords Go.Proofs.YtodfnelilhjoeaaW.PrintLast Go.Proofs.YtodfnelilhjoeaaW.PrintMore
attribute [local go_sem] max2_int min2_int max_two min_two max_three min_three max_four min_four
set_option linter.unusedVariables false
set_option linter.unusedSimpArgs false

/-! ### spec_l07Prop: function 141 -/
def spec_l07Prop.f (a0 : Int) : Option (Int) := if a0 < 0 then (some (wrap64 (-a0))) else (some a0)
set_option maxHeartbeats 8000000 in
set_option maxRecDepth 100000 in
theorem spec_l07Prop.calls (a0 : Int) (r : Int) (w : World) (h : spec_l07Prop.f a0 = some r) :
  Calls Try.prog 141 #[.int .i64 a0] w fun e w' => e = .returned (.int .i64 r) ∧ Drawn0 w w' := by
 have H : (if a0 < 0 then (some (wrap64 (-a0))) else (some a0)) = some r := h
 clear h
 by_cases c2 : a0 < 0
 ·rw [if_pos c2] at H
  have c2b0 : decide (a0 < 0) = true := decide_eq_true c2
  clear c2
  obtain rfl := Option.some.inj H
  go_enter Try.func141, Try.ntmps141
  go_wp2
  go_ret
  exact ⟨by first | rfl | (simp; done) | (simp [*]; done), by repeat (first | exact Drawn0.refl _ | apply Drawn0.step)⟩
 ·rw [if_neg c2] at H
  have c2b0 : decide (a0 < 0) = false := decide_eq_false c2
  clear c2
  obtain rfl := Option.some.inj H
  go_enter Try.func141, Try.ntmps141
  go_wp2
  go_ret
  exact ⟨by first | rfl | (simp; done) | (simp [*]; done), by repeat (first | exact Drawn0.refl _ | apply Drawn0.step)⟩

end Go.Proofs.Ytodfnelilhjoeaa.Pr

namespace Go.Proofs.Ytodfnelilhjoeaa.Pr
open Go.RowKit Go.Proofs.YtodfnelilhjoeaaW.PrintWords Go.Proofs.YtodfnelilhjoeaaW.PrintLast Go.Proofs.YtodfnelilhjoeaaW.PrintMore
attribute [local go_sem] max2_int min2_int max_two min_two max_three min_three max_four min_four
set_option linter.unusedVariables false
set_option linter.unusedSimpArgs false

/-! ### spec_LabelOk: function 174 -/
def spec_LabelOk.l0 : Nat → List Int → List Int → Int → Int → Option (Bool)
 | 0, _, _, _, _ => none
 | k + 1, x0, x5, x6, x7 => if x7 < x6 then (if 0 ≤ x7 then (if x7 < (x5.length : Int) then (if (rd x5 x7) = 0 then (some false) else ((spec_l01In.f (rd x5 x7) (-3) 3).bind fun t174002 => (if t174002 = true then (if x7 > 0 then (if 0 ≤ (wrap64 (x7 - 1)) then (if (wrap64 (x7 - 1)) < (x0.length : Int) then ((spec_l07Prop.f (rd x0 (wrap64 (x7 - 1)))).bind fun t174004 => ((spec_l07Prop.f (rd x5 x7)).bind fun t174005 => (if t174004 ≥ t174005 then (some false) else (spec_LabelOk.l0 k x0 x5 x6 (wrap64 (x7 + 1)))))) else (none)) else (none)) else (spec_LabelOk.l0 k x0 x5 x6 (wrap64 (x7 + 1)))) else (some false)))) else (none)) else (none)) else (some true)
def spec_LabelOk.f (k : Nat) (l0 : List Int) : Option (Bool) := spec_LabelOk.l0 k l0 l0 (l0.length : Int) 0
set_option maxHeartbeats 8000000 in
set_option maxRecDepth 100000 in
theorem spec_LabelOk.calls (k : Nat) (A0 : Option Addr) (c0 : Nat) (l0 : List Int) (r : Bool) (w : World) (hr0 : Kd.C (Kd.int .i64) w A0 l0.length l0) (hc0 : l0.length ≤ c0) (h : spec_LabelOk.f k l0 = some r) :
  Calls Try.prog 174 #[.slice A0 l0.length c0] w fun e w' => e = .returned (.bool r) ∧ Drawn0 w w' := by
 have HR0 := Aside0.mk hr0; have HC0 := Aside0.mk hc0; clear hr0 hc0
 have H : (spec_LabelOk.l0 k l0 l0 (l0.length : Int) 0) = some r := h
 clear h
 have H' := Aside0.mk H
 clear H
 go_enter Try.func174, Try.ntmps174
 go_wp2
 go_loopg [7] k (fun kq v7 w' => ∃ (x7_1 : Int), v7 = .int .i64 x7_1 ∧ Aside0 (spec_LabelOk.l0 kq l0 l0 (l0.length : Int) x7_1 = some r) ∧ Aside0 (kq ≤ k) ∧ Drawn0 w w')
 case atStart => exact ⟨(0), (by first | rfl | (simp; done) | (simp [*]; done)), H', ⟨Nat.le_refl _⟩, by repeat (first | exact Drawn0.refl _ | apply Drawn0.step)⟩
 case round =>
  clear H'
  try clear c1
  obtain ⟨x7_1, rfl, HA, HK1, ⟨m1, rfl⟩⟩ := hrel
  cases gk with
  | zero => exact absurd HA.out (by simp [spec_LabelOk.l0])
  | succ k1 =>
   have H := HA.out
   clear HA
   simp only [spec_LabelOk.l0] at H
   by_cases c2 : x7_1 < (l0.length : Int)
   ·rw [if_pos c2] at H
    have c2b0 : decide (x7_1 < (l0.length : Int)) = true := decide_eq_true c2
    clear c2
    by_cases c3 : 0 ≤ x7_1
    ·rw [if_pos c3] at H
     have c3b0 : decide (0 ≤ x7_1) = true := decide_eq_true c3
     clear c3
     by_cases c4 : x7_1 < (l0.length : Int)
     ·rw [if_pos c4] at H
      have c4b0 : decide (x7_1 < (l0.length : Int)) = true := decide_eq_true c4
      clear c4
      by_cases c5 : (rd l0 x7_1) = 0
      ·rw [if_pos c5] at H
       have c5b0 : ((rd l0 x7_1) == 0) = true := beq_iff_eq.mpr c5
       have c5b1 : ((rd l0 x7_1) != 0) = false := bne_eq_false_iff_eq.mpr c5
       clear c5
       obtain rfl := Option.some.inj H
       have p174001 : 0 ≤ (x7_1 : Int) := of_decide_eq_true (by first | (with_reducible assumption) | assumption)
       have q174001 : x7_1 < (l0.length : Int) := of_decide_eq_true (by first | (with_reducible assumption) | assumption)
       obtain ⟨ad174001, e174001, hx174001_0⟩ := Kd.at_int HR0.out x7_1 p174001 q174001
       cases e174001
       replace p174001 := eq_true p174001
       replace q174001 := eq_true q174001
       go_wp2
       go_ret
       exact ⟨by first | rfl | (simp; done) | (simp [*]; done), by repeat (first | exact Drawn0.refl _ | apply Drawn0.step)⟩
      ·rw [if_neg c5] at H
       have c5b0 : ((rd l0 x7_1) == 0) = false := beq_eq_false_iff_ne.mpr c5
       have c5b1 : ((rd l0 x7_1) != 0) = true := bne_iff_ne.mpr c5
       replace H := Option.bind_eq_some_iff.mp H
       obtain ⟨t174002, A60, H⟩ := H
       replace H : (if t174002 = true then (if x7_1 > 0 then (if 0 ≤ (wrap64 (x7_1 - 1)) then (if (wrap64 (x7_1 - 1)) < (l0.length : Int) then ((spec_l07Prop.f (rd l0 (wrap64 (x7_1 - 1)))).bind fun t174004 => ((spec_l07Prop.f (rd l0 x7_1)).bind fun t174005 => (if t174004 ≥ t174005 then (some false) else (spec_LabelOk.l0 k1 l0 l0 (l0.length : Int) (wrap64 (x7_1 + 1)))))) else (none)) else (none)) else (spec_LabelOk.l0 k1 l0 l0 (l0.length : Int) (wrap64 (x7_1 + 1)))) else (some false)) = some r := H
       have A6 := Aside0.mk A60; clear A60
       by_cases c7 : t174002 = true
       ·subst c7
        have H1 : (if x7_1 > 0 then (if 0 ≤ (wrap64 (x7_1 - 1)) then (if (wrap64 (x7_1 - 1)) < (l0.length : Int) then ((spec_l07Prop.f (rd l0 (wrap64 (x7_1 - 1)))).bind fun t174004 => ((spec_l07Prop.f (rd l0 x7_1)).bind fun t174005 => (if t174004 ≥ t174005 then (some false) else (spec_LabelOk.l0 k1 l0 l0 (l0.length : Int) (wrap64 (x7_1 + 1)))))) else (none)) else (none)) else (spec_LabelOk.l0 k1 l0 l0 (l0.length : Int) (wrap64 (x7_1 + 1)))) = some r := by rw [if_pos rfl] at H; exact H
        clear H
        have H := H1
        clear H1
        by_cases c8 : x7_1 > 0
        ·rw [if_pos c8] at H
         have c8b0 : decide (0 < x7_1) = true := decide_eq_true c8
         clear c8
         obtain ⟨ji9, hji9⟩ : ∃ j_ : Int, (wrap64 (x7_1 - 1)) = j_ := ⟨_, rfl⟩
         replace H : (if 0 ≤ (ji9) then (if (ji9) < (l0.length : Int) then ((spec_l07Prop.f (rd l0 (ji9))).bind fun t174004 => ((spec_l07Prop.f (rd l0 x7_1)).bind fun t174005 => (if t174004 ≥ t174005 then (some false) else (spec_LabelOk.l0 k1 l0 l0 (l0.length : Int) (wrap64 (x7_1 + 1)))))) else (none)) else (none)) = some r := by first | (rw [hji9] at H; exact H) | (simp only [hji9] at H ⊢; exact H)
         (try rw [hji9] at A6)
         have hji9w : (IntKind.i64.wrap (x7_1 - 1)) = ji9 := (i64_w _).trans hji9
         by_cases c10 : 0 ≤ (ji9)
         ·rw [if_pos c10] at H
          have c10b0 : decide (0 ≤ (ji9)) = true := decide_eq_true c10
          clear c10
          by_cases c11 : (ji9) < (l0.length : Int)
          ·rw [if_pos c11] at H
           have c11b0 : decide ((ji9) < (l0.length : Int)) = true := decide_eq_true c11
           clear c11
           replace H := Option.bind_eq_some_iff.mp H
           obtain ⟨t174004, A120, H⟩ := H
           replace H : ((spec_l07Prop.f (rd l0 x7_1)).bind fun t174005 => (if t174004 ≥ t174005 then (some false) else (spec_LabelOk.l0 k1 l0 l0 (l0.length : Int) (wrap64 (x7_1 + 1))))) = some r := H
           have A12 := Aside0.mk A120; clear A120
           replace H := Option.bind_eq_some_iff.mp H
           obtain ⟨t174005, A130, H⟩ := H
           replace H : (if t174004 ≥ t174005 then (some false) else (spec_LabelOk.l0 k1 l0 l0 (l0.length : Int) (wrap64 (x7_1 + 1)))) = some r := H
           have A13 := Aside0.mk A130; clear A130
           by_cases c14 : t174004 ≥ t174005
           ·rw [if_pos c14] at H
            have c14b0 : decide (t174005 ≤ t174004) = true := decide_eq_true c14
            clear c14
            obtain rfl := Option.some.inj H
            have p174001 : 0 ≤ (x7_1 : Int) := of_decide_eq_true (by first | (with_reducible assumption) | assumption)
            have q174001 : x7_1 < (l0.length : Int) := of_decide_eq_true (by first | (with_reducible assumption) | assumption)
            obtain ⟨ad174001, e174001, hx174001_0⟩ := Kd.at_int HR0.out x7_1 p174001 q174001
            cases e174001
            replace p174001 := eq_true p174001
            replace q174001 := eq_true q174001
            go_wp2_with (first | (go_at_call 68; (with_reducible refine (spec_l01In.calls (rd l0 x7_1) (-3) 3 true _ A6.out).mono ?_); rintro e w' ⟨rfl, ⟨nd, rfl⟩⟩; have p174003 : 0 ≤ ((ji9) : Int) := of_decide_eq_true (by first | (with_reducible assumption) | assumption); have q174003 : (ji9) < (l0.length : Int) := of_decide_eq_true (by first | (with_reducible assumption) | assumption); obtain ⟨ad174003, e174003, hx174003_0⟩ := Kd.at_int HR0.out (ji9) p174003 q174003; obtain rfl : ad174001 = ad174003 := (by injection e174003); replace p174003 := eq_true p174003; replace q174003 := eq_true q174003) | (go_at_call 141; (with_reducible refine (spec_l07Prop.calls (rd l0 (ji9)) t174004 _ A12.out).mono ?_); rintro e w' ⟨rfl, ⟨nd, rfl⟩⟩) | (go_at_call 141; (with_reducible refine (spec_l07Prop.calls (rd l0 x7_1) t174005 _ A13.out).mono ?_); rintro e w' ⟨rfl, ⟨nd, rfl⟩⟩))
            go_ret
            exact ⟨by first | rfl | (simp; done) | (simp only [← hji9] <;> (first | rfl | simp)) | (simp [*]; done), by repeat (first | exact Drawn0.refl _ | apply Drawn0.step)⟩
           ·rw [if_neg c14] at H
            have c14b0 : decide (t174005 ≤ t174004) = false := decide_eq_false c14
            clear c14
            have H' := Aside0.mk H
            clear H
            have p174001 : 0 ≤ (x7_1 : Int) := of_decide_eq_true (by first | (with_reducible assumption) | assumption)
            have q174001 : x7_1 < (l0.length : Int) := of_decide_eq_true (by first | (with_reducible assumption) | assumption)
            obtain ⟨ad174001, e174001, hx174001_0⟩ := Kd.at_int HR0.out x7_1 p174001 q174001
            cases e174001
            replace p174001 := eq_true p174001
            replace q174001 := eq_true q174001
            go_wp2_with (first | (go_at_call 68; (with_reducible refine (spec_l01In.calls (rd l0 x7_1) (-3) 3 true _ A6.out).mono ?_); rintro e w' ⟨rfl, ⟨nd, rfl⟩⟩; have p174003 : 0 ≤ ((ji9) : Int) := of_decide_eq_true (by first | (with_reducible assumption) | assumption); have q174003 : (ji9) < (l0.length : Int) := of_decide_eq_true (by first | (with_reducible assumption) | assumption); obtain ⟨ad174003, e174003, hx174003_0⟩ := Kd.at_int HR0.out (ji9) p174003 q174003; obtain rfl : ad174001 = ad174003 := (by injection e174003); replace p174003 := eq_true p174003; replace q174003 := eq_true q174003) | (go_at_call 141; (with_reducible refine (spec_l07Prop.calls (rd l0 (ji9)) t174004 _ A12.out).mono ?_); rintro e w' ⟨rfl, ⟨nd, rfl⟩⟩) | (go_at_call 141; (with_reducible refine (spec_l07Prop.calls (rd l0 x7_1) t174005 _ A13.out).mono ?_); rintro e w' ⟨rfl, ⟨nd, rfl⟩⟩))
            go_roundg k1
            case measure => have := HK1.out; omega
            case rel => exact ⟨(wrap64 (x7_1 + 1)), (by first | rfl | (simp; done) | (simp [*]; done)), H', ⟨by have := HK1.out; omega⟩, by repeat (first | exact Drawn0.refl _ | apply Drawn0.step)⟩
          ·rw [if_neg c11] at H
           exact absurd H (by simp)
         ·rw [if_neg c10] at H
          exact absurd H (by simp)
        ·rw [if_neg c8] at H
         have c8b0 : decide (0 < x7_1) = false := decide_eq_false c8
         clear c8
         have H' := Aside0.mk H
         clear H
         have p174001 : 0 ≤ (x7_1 : Int) := of_decide_eq_true (by first | (with_reducible assumption) | assumption)
         have q174001 : x7_1 < (l0.length : Int) := of_decide_eq_true (by first | (with_reducible assumption) | assumption)
         obtain ⟨ad174001, e174001, hx174001_0⟩ := Kd.at_int HR0.out x7_1 p174001 q174001
         cases e174001
         replace p174001 := eq_true p174001
         replace q174001 := eq_true q174001
         go_wp2_with (first | (go_at_call 68; (with_reducible refine (spec_l01In.calls (rd l0 x7_1) (-3) 3 true _ A6.out).mono ?_); rintro e w' ⟨rfl, ⟨nd, rfl⟩⟩))
         go_roundg k1
         case measure => have := HK1.out; omega
         case rel => exact ⟨(wrap64 (x7_1 + 1)), (by first | rfl | (simp; done) | (simp [*]; done)), H', ⟨by have := HK1.out; omega⟩, by repeat (first | exact Drawn0.refl _ | apply Drawn0.step)⟩
       ·replace c7 := Bool.eq_false_iff.mpr c7
        subst c7
        have H1 : (some false) = some r := by rw [if_neg (show ¬ (false = true) by decide)] at H; exact H
        clear H
        have H := H1
        clear H1
        obtain rfl := Option.some.inj H
        have p174001 : 0 ≤ (x7_1 : Int) := of_decide_eq_true (by first | (with_reducible assumption) | assumption)
        have q174001 : x7_1 < (l0.length : Int) := of_decide_eq_true (by first | (with_reducible assumption) | assumption)
        obtain ⟨ad174001, e174001, hx174001_0⟩ := Kd.at_int HR0.out x7_1 p174001 q174001
        cases e174001
        replace p174001 := eq_true p174001
        replace q174001 := eq_true q174001
        go_wp2_with (first | (go_at_call 68; (with_reducible refine (spec_l01In.calls (rd l0 x7_1) (-3) 3 false _ A6.out).mono ?_); rintro e w' ⟨rfl, ⟨nd, rfl⟩⟩))
        go_ret
        exact ⟨by first | rfl | (simp; done) | (simp [*]; done), by repeat (first | exact Drawn0.refl _ | apply Drawn0.step)⟩
     ·rw [if_neg c4] at H
      exact absurd H (by simp)
    ·rw [if_neg c3] at H
     exact absurd H (by simp)
   ·rw [if_neg c2] at H
    have c2b0 : decide (x7_1 < (l0.length : Int)) = false := decide_eq_false c2
    clear c2
    obtain rfl := Option.some.inj H
    go_wp2
    go_ret
    exact ⟨by first | rfl | (simp; done) | (simp [*]; done), by repeat (first | exact Drawn0.refl _ | apply Drawn0.step)⟩

end Go.Proofs.Ytodfnelilhjoeaa.Pr

namespace Go.Proofs.Ytodfnelilhjoeaa.Pr
open Go.RowKit Go.Proofs.YtodfnelilhjoeaaW.PrintWords Go.Proofs.YtodfnelilhjoeaaW.PrintLast Go.Proofs.YtodfnelilhjoeaaW.PrintMore
attribute [local go_sem] max2_int min2_int max_two min_two max_three min_three max_four min_four
set_option linter.unusedVariables false
set_option linter.unusedSimpArgs false

/-! ### impl_propOf: function 162 -/
def impl_propOf.f (a0 : Int) : Option (Int) := some (mx a0 (wrap64 (-a0)))
set_option maxHeartbeats 8000000 in
set_option maxRecDepth 100000 in
theorem impl_propOf.calls (a0 : Int) (r : Int) (w : World) (h : impl_propOf.f a0 = some r) :
  Calls Try.prog 162 #[.int .i64 a0] w fun e w' => e = .returned (.int .i64 r) ∧ Below w.heap.size w w' := by
 have HB := Aside0.mk (Below.refl w.heap.size w)
 have H : (some (mx a0 (wrap64 (-a0)))) = some r := h
 clear h
 obtain ⟨ji2, hji2⟩ : ∃ j_ : Int, (mx a0 (wrap64 (-a0))) = j_ := ⟨_, rfl⟩
 replace H : (some ji2) = some r := by first | (rw [hji2] at H; exact H) | (simp only [hji2] at H ⊢; exact H)
 have hji2_ : (if a0 < (wrap64 (-a0)) then (wrap64 (-a0)) else a0) = ji2 := hji2
 obtain rfl := Option.some.inj H
 go_enter Try.func162, Try.ntmps162
 go_wp2
 go_ret
 exact ⟨by first | rfl | (simp [errW_none, errW_some] <;> rfl) | (simp only [← hji2]; first | rfl | (simp [errW_none, errW_some] <;> rfl)) | (simp [*, errW_none, errW_some] <;> rfl), by repeat (first | (with_reducible first | exact HB.out | apply below_alloc | apply pw_below_drewN | apply below_drew1) | exact HB.out)⟩

end Go.Proofs.Ytodfnelilhjoeaa.Pr

namespace Go.Proofs.Ytodfnelilhjoeaa.Pr
open Go.RowKit Go.Proofs.YtodfnelilhjoeaaW.PrintWords Go.Proofs.YtodfnelilhjoeaaW.PrintLast Go.Proofs.YtodfnelilhjoeaaW.PrintMore
attribute [local go_sem] max2_int min2_int max_two min_two max_three min_three max_four min_four
set_option linter.unusedVariables false
set_option linter.unusedSimpArgs false

/-! ### impl_LabelOk: function 168 -/
def impl_LabelOk.l0 : Nat → List Int → List Int → Int → Int → Option (Bool)
 | 0, _, _, _, _ => none
 | k + 1, x0, x5, x6, x7 => if x7 < x6 then (if 0 ≤ x7 then (if x7 < (x5.length : Int) then (if (rd x5 x7) = 0 then (some false) else (if (rd x5 x7) < (-3) then (some false) else (if (rd x5 x7) > 3 then (some false) else (if x7 > 0 then (if 0 ≤ (wrap64 (x7 - 1)) then (if (wrap64 (x7 - 1)) < (x0.length : Int) then ((impl_propOf.f (rd x0 (wrap64 (x7 - 1)))).bind fun t168003 => ((impl_propOf.f (rd x5 x7)).bind fun t168004 => (if t168003 ≥ t168004 then (some false) else (impl_LabelOk.l0 k x0 x5 x6 (wrap64 (x7 + 1)))))) else (none)) else (none)) else (impl_LabelOk.l0 k x0 x5 x6 (wrap64 (x7 + 1))))))) else (none)) else (none)) else (some true)
def impl_LabelOk.f (k : Nat) (l0 : List Int) : Option (Bool) := impl_LabelOk.l0 k l0 l0 (l0.length : Int) 0
set_option maxHeartbeats 8000000 in
set_option maxRecDepth 100000 in
theorem impl_LabelOk.calls (k : Nat) (A0 : Option Addr) (c0 : Nat) (l0 : List Int) (r : Bool) (w : World) (hr0 : Kd.C (Kd.int .i64) w A0 l0.length l0) (hc0 : l0.length ≤ c0) (h : impl_LabelOk.f k l0 = some r) :
  Calls Try.prog 168 #[.slice A0 l0.length c0] w fun e w' => e = .returned (.bool r) ∧ Below w.heap.size w w' := by
 have HR0 := Aside0.mk hr0; have HC0 := Aside0.mk hc0; clear hr0 hc0
 have HB := Aside0.mk (Below.refl w.heap.size w)
 have H : (impl_LabelOk.l0 k l0 l0 (l0.length : Int) 0) = some r := h
 clear h
 have H' := Aside0.mk H
 clear H
 go_enter Try.func168, Try.ntmps168
 go_wp2
 go_loopg [7] k (fun kq v7 w' => ∃ (x7_1 : Int), v7 = .int .i64 x7_1 ∧ Aside0 (impl_LabelOk.l0 kq l0 l0 (l0.length : Int) x7_1 = some r) ∧ Aside0 (kq ≤ k) ∧ Aside0 (Below w.heap.size w w'))
 case atStart => exact ⟨(0), (by first | rfl | (simp; done) | (simp [*]; done)), H', ⟨Nat.le_refl _⟩, ⟨by repeat (first | (with_reducible first | exact HB.out | apply below_alloc | apply pw_below_drewN | apply below_drew1) | exact HB.out)⟩⟩
 case round =>
  clear H'
  try clear c1
  obtain ⟨x7_1, rfl, HA, HK1, HB⟩ := hrel
  cases gk with
  | zero => exact absurd HA.out (by simp [impl_LabelOk.l0])
  | succ k1 =>
   have H := HA.out
   clear HA
   simp only [impl_LabelOk.l0] at H
   by_cases c2 : x7_1 < (l0.length : Int)
   ·rw [if_pos c2] at H
    have c2b0 : decide (x7_1 < (l0.length : Int)) = true := decide_eq_true c2
    clear c2
    by_cases c3 : 0 ≤ x7_1
    ·rw [if_pos c3] at H
     have c3b0 : decide (0 ≤ x7_1) = true := decide_eq_true c3
     clear c3
     by_cases c4 : x7_1 < (l0.length : Int)
     ·rw [if_pos c4] at H
      have c4b0 : decide (x7_1 < (l0.length : Int)) = true := decide_eq_true c4
      clear c4
      by_cases c5 : (rd l0 x7_1) = 0
      ·rw [if_pos c5] at H
       have c5b0 : ((rd l0 x7_1) == 0) = true := beq_iff_eq.mpr c5
       have c5b1 : ((rd l0 x7_1) != 0) = false := bne_eq_false_iff_eq.mpr c5
       clear c5
       obtain rfl := Option.some.inj H
       have p168001 : 0 ≤ (x7_1 : Int) := of_decide_eq_true (by first | (with_reducible assumption) | assumption)
       have q168001 : x7_1 < (l0.length : Int) := of_decide_eq_true (by first | (with_reducible assumption) | assumption)
       obtain ⟨ad168001, e168001, hx168001_0⟩ := Kd.at_int HR0.out x7_1 p168001 q168001
       cases e168001
       replace hx168001_0 := (HB.out.cell (World.block_lt_of_cell? w _ hx168001_0)).trans hx168001_0
       replace p168001 := eq_true p168001
       replace q168001 := eq_true q168001
       go_wp2
       go_ret
       exact ⟨by first | rfl | (simp [errW_none, errW_some] <;> rfl) | (simp [*, errW_none, errW_some] <;> rfl), by repeat (first | (with_reducible first | exact HB.out | apply below_alloc | apply pw_below_drewN | apply below_drew1) | exact HB.out)⟩
      ·rw [if_neg c5] at H
       have c5b0 : ((rd l0 x7_1) == 0) = false := beq_eq_false_iff_ne.mpr c5
       have c5b1 : ((rd l0 x7_1) != 0) = true := bne_iff_ne.mpr c5
       by_cases c6 : (rd l0 x7_1) < (-3)
       ·rw [if_pos c6] at H
        have c6b0 : decide ((rd l0 x7_1) < (-3)) = true := decide_eq_true c6
        clear c6
        obtain rfl := Option.some.inj H
        have p168001 : 0 ≤ (x7_1 : Int) := of_decide_eq_true (by first | (with_reducible assumption) | assumption)
        have q168001 : x7_1 < (l0.length : Int) := of_decide_eq_true (by first | (with_reducible assumption) | assumption)
        obtain ⟨ad168001, e168001, hx168001_0⟩ := Kd.at_int HR0.out x7_1 p168001 q168001
        cases e168001
        replace hx168001_0 := (HB.out.cell (World.block_lt_of_cell? w _ hx168001_0)).trans hx168001_0
        replace p168001 := eq_true p168001
        replace q168001 := eq_true q168001
        go_wp2
        go_ret
        exact ⟨by first | rfl | (simp [errW_none, errW_some] <;> rfl) | (simp [*, errW_none, errW_some] <;> rfl), by repeat (first | (with_reducible first | exact HB.out | apply below_alloc | apply pw_below_drewN | apply below_drew1) | exact HB.out)⟩
       ·rw [if_neg c6] at H
        have c6b0 : decide ((rd l0 x7_1) < (-3)) = false := decide_eq_false c6
        clear c6
        by_cases c7 : (rd l0 x7_1) > 3
        ·rw [if_pos c7] at H
         have c7b0 : decide (3 < (rd l0 x7_1)) = true := decide_eq_true c7
         clear c7
         obtain rfl := Option.some.inj H
         have p168001 : 0 ≤ (x7_1 : Int) := of_decide_eq_true (by first | (with_reducible assumption) | assumption)
         have q168001 : x7_1 < (l0.length : Int) := of_decide_eq_true (by first | (with_reducible assumption) | assumption)
         obtain ⟨ad168001, e168001, hx168001_0⟩ := Kd.at_int HR0.out x7_1 p168001 q168001
         cases e168001
         replace hx168001_0 := (HB.out.cell (World.block_lt_of_cell? w _ hx168001_0)).trans hx168001_0
         replace p168001 := eq_true p168001
         replace q168001 := eq_true q168001
         go_wp2
         go_ret
         exact ⟨by first | rfl | (simp [errW_none, errW_some] <;> rfl) | (simp [*, errW_none, errW_some] <;> rfl), by repeat (first | (with_reducible first | exact HB.out | apply below_alloc | apply pw_below_drewN | apply below_drew1) | exact HB.out)⟩
        ·rw [if_neg c7] at H
         have c7b0 : decide (3 < (rd l0 x7_1)) = false := decide_eq_false c7
         clear c7
         by_cases c8 : x7_1 > 0
         ·rw [if_pos c8] at H
          have c8b0 : decide (0 < x7_1) = true := decide_eq_true c8
          clear c8
          obtain ⟨ji9, hji9⟩ : ∃ j_ : Int, (wrap64 (x7_1 - 1)) = j_ := ⟨_, rfl⟩
          replace H : (if 0 ≤ (ji9) then (if (ji9) < (l0.length : Int) then ((impl_propOf.f (rd l0 (ji9))).bind fun t168003 => ((impl_propOf.f (rd l0 x7_1)).bind fun t168004 => (if t168003 ≥ t168004 then (some false) else (impl_LabelOk.l0 k1 l0 l0 (l0.length : Int) (wrap64 (x7_1 + 1)))))) else (none)) else (none)) = some r := by first | (rw [hji9] at H; exact H) | (simp only [hji9] at H ⊢; exact H)
          have hji9w : (IntKind.i64.wrap (x7_1 - 1)) = ji9 := (i64_w _).trans hji9
          by_cases c10 : 0 ≤ (ji9)
          ·rw [if_pos c10] at H
           have c10b0 : decide (0 ≤ (ji9)) = true := decide_eq_true c10
           clear c10
           by_cases c11 : (ji9) < (l0.length : Int)
           ·rw [if_pos c11] at H
            have c11b0 : decide ((ji9) < (l0.length : Int)) = true := decide_eq_true c11
            clear c11
            replace H := Option.bind_eq_some_iff.mp H
            obtain ⟨t168003, A120, H⟩ := H
            replace H : ((impl_propOf.f (rd l0 x7_1)).bind fun t168004 => (if t168003 ≥ t168004 then (some false) else (impl_LabelOk.l0 k1 l0 l0 (l0.length : Int) (wrap64 (x7_1 + 1))))) = some r := H
            have A12 := Aside0.mk A120; clear A120
            replace H := Option.bind_eq_some_iff.mp H
            obtain ⟨t168004, A130, H⟩ := H
            replace H : (if t168003 ≥ t168004 then (some false) else (impl_LabelOk.l0 k1 l0 l0 (l0.length : Int) (wrap64 (x7_1 + 1)))) = some r := H
            have A13 := Aside0.mk A130; clear A130
            by_cases c14 : t168003 ≥ t168004
            ·rw [if_pos c14] at H
             have c14b0 : decide (t168004 ≤ t168003) = true := decide_eq_true c14
             clear c14
             obtain rfl := Option.some.inj H
             have p168001 : 0 ≤ (x7_1 : Int) := of_decide_eq_true (by first | (with_reducible assumption) | assumption)
             have q168001 : x7_1 < (l0.length : Int) := of_decide_eq_true (by first | (with_reducible assumption) | assumption)
             obtain ⟨ad168001, e168001, hx168001_0⟩ := Kd.at_int HR0.out x7_1 p168001 q168001
             cases e168001
             replace hx168001_0 := (HB.out.cell (World.block_lt_of_cell? w _ hx168001_0)).trans hx168001_0
             replace p168001 := eq_true p168001
             replace q168001 := eq_true q168001
             have p168002 : 0 ≤ ((ji9) : Int) := of_decide_eq_true (by first | (with_reducible assumption) | assumption)
             have q168002 : (ji9) < (l0.length : Int) := of_decide_eq_true (by first | (with_reducible assumption) | assumption)
             obtain ⟨ad168002, e168002, hx168002_0⟩ := Kd.at_int HR0.out (ji9) p168002 q168002
             obtain rfl : ad168001 = ad168002 := (by injection e168002)
             replace hx168002_0 := (HB.out.cell (World.block_lt_of_cell? w _ hx168002_0)).trans hx168002_0
             replace p168002 := eq_true p168002
             replace q168002 := eq_true q168002
             go_wp2_with (first | (go_at_call 162; (with_reducible refine (impl_propOf.calls (rd l0 (ji9)) t168003 _ A12.out).mono ?_); rintro e w15 ⟨rfl, hb⟩; have n0_ := Aside0.mk (below_step (by repeat (first | (with_reducible first | exact HB.out | apply below_alloc | apply pw_below_drewN | apply below_drew1) | exact HB.out)) hb); clear HB; have HB := n0_; clear n0_; (try clear hb); (try clear hb2); (try clear hk); (try clear hi)) | (go_at_call 162; (with_reducible refine (impl_propOf.calls (rd l0 x7_1) t168004 _ A13.out).mono ?_); rintro e w16 ⟨rfl, hb⟩; have n0_ := Aside0.mk (below_step (by repeat (first | (with_reducible first | exact HB.out | apply below_alloc | apply pw_below_drewN | apply below_drew1) | exact HB.out)) hb); clear HB; have HB := n0_; clear n0_; (try clear hb); (try clear hb2); (try clear hk); (try clear hi)))
             go_ret
             exact ⟨by first | rfl | (simp [errW_none, errW_some] <;> rfl) | (simp only [← hji9]; first | rfl | (simp [errW_none, errW_some] <;> rfl)) | (simp [*, errW_none, errW_some] <;> rfl), by repeat (first | (with_reducible first | exact HB.out | apply below_alloc | apply pw_below_drewN | apply below_drew1) | exact HB.out)⟩
            ·rw [if_neg c14] at H
             have c14b0 : decide (t168004 ≤ t168003) = false := decide_eq_false c14
             clear c14
             have H' := Aside0.mk H
             clear H
             have p168001 : 0 ≤ (x7_1 : Int) := of_decide_eq_true (by first | (with_reducible assumption) | assumption)
             have q168001 : x7_1 < (l0.length : Int) := of_decide_eq_true (by first | (with_reducible assumption) | assumption)
             obtain ⟨ad168001, e168001, hx168001_0⟩ := Kd.at_int HR0.out x7_1 p168001 q168001
             cases e168001
             replace hx168001_0 := (HB.out.cell (World.block_lt_of_cell? w _ hx168001_0)).trans hx168001_0
             replace p168001 := eq_true p168001
             replace q168001 := eq_true q168001
             have p168002 : 0 ≤ ((ji9) : Int) := of_decide_eq_true (by first | (with_reducible assumption) | assumption)
             have q168002 : (ji9) < (l0.length : Int) := of_decide_eq_true (by first | (with_reducible assumption) | assumption)
             obtain ⟨ad168002, e168002, hx168002_0⟩ := Kd.at_int HR0.out (ji9) p168002 q168002
             obtain rfl : ad168001 = ad168002 := (by injection e168002)
             replace hx168002_0 := (HB.out.cell (World.block_lt_of_cell? w _ hx168002_0)).trans hx168002_0
             replace p168002 := eq_true p168002
             replace q168002 := eq_true q168002
             go_wp2_with (first | (go_at_call 162; (with_reducible refine (impl_propOf.calls (rd l0 (ji9)) t168003 _ A12.out).mono ?_); rintro e w17 ⟨rfl, hb⟩; have n0_ := Aside0.mk (below_step (by repeat (first | (with_reducible first | exact HB.out | apply below_alloc | apply pw_below_drewN | apply below_drew1) | exact HB.out)) hb); clear HB; have HB := n0_; clear n0_; (try clear hb); (try clear hb2); (try clear hk); (try clear hi)) | (go_at_call 162; (with_reducible refine (impl_propOf.calls (rd l0 x7_1) t168004 _ A13.out).mono ?_); rintro e w18 ⟨rfl, hb⟩; have n0_ := Aside0.mk (below_step (by repeat (first | (with_reducible first | exact HB.out | apply below_alloc | apply pw_below_drewN | apply below_drew1) | exact HB.out)) hb); clear HB; have HB := n0_; clear n0_; (try clear hb); (try clear hb2); (try clear hk); (try clear hi)))
             go_roundg k1
             case measure => have := HK1.out; omega
             case rel => exact ⟨(wrap64 (x7_1 + 1)), (by first | rfl | (simp; done) | (simp [*]; done)), H', ⟨by have := HK1.out; omega⟩, ⟨by repeat (first | (with_reducible first | exact HB.out | apply below_alloc | apply pw_below_drewN | apply below_drew1) | exact HB.out)⟩⟩
           ·rw [if_neg c11] at H
            exact absurd H (by simp)
          ·rw [if_neg c10] at H
           exact absurd H (by simp)
         ·rw [if_neg c8] at H
          have c8b0 : decide (0 < x7_1) = false := decide_eq_false c8
          clear c8
          have H' := Aside0.mk H
          clear H
          have p168001 : 0 ≤ (x7_1 : Int) := of_decide_eq_true (by first | (with_reducible assumption) | assumption)
          have q168001 : x7_1 < (l0.length : Int) := of_decide_eq_true (by first | (with_reducible assumption) | assumption)
          obtain ⟨ad168001, e168001, hx168001_0⟩ := Kd.at_int HR0.out x7_1 p168001 q168001
          cases e168001
          replace hx168001_0 := (HB.out.cell (World.block_lt_of_cell? w _ hx168001_0)).trans hx168001_0
          replace p168001 := eq_true p168001
          replace q168001 := eq_true q168001
          go_wp2
          go_roundg k1
          case measure => have := HK1.out; omega
          case rel => exact ⟨(wrap64 (x7_1 + 1)), (by first | rfl | (simp; done) | (simp [*]; done)), H', ⟨by have := HK1.out; omega⟩, ⟨by repeat (first | (with_reducible first | exact HB.out | apply below_alloc | apply pw_below_drewN | apply below_drew1) | exact HB.out)⟩⟩
     ·rw [if_neg c4] at H
      exact absurd H (by simp)
    ·rw [if_neg c3] at H
     exact absurd H (by simp)
   ·rw [if_neg c2] at H
    have c2b0 : decide (x7_1 < (l0.length : Int)) = false := decide_eq_false c2
    clear c2
    obtain rfl := Option.some.inj H
    go_wp2
    go_ret
    exact ⟨by first | rfl | (simp [errW_none, errW_some] <;> rfl) | (simp [*, errW_none, errW_some] <;> rfl), by repeat (first | (with_reducible first | exact HB.out | apply below_alloc | apply pw_below_drewN | apply below_drew1) | exact HB.out)⟩

end Go.Proofs.Ytodfnelilhjoeaa.Pr

namespace Go.Proofs.Ytodfnelilhjoeaa.Pr
open Go.RowKit Go.Proofs.YtodfnelilhjoeaaW.PrintWords Go.Proofs.YtodfnelilhjoeaaW.PrintMore Go.Proofs.Ytodfnelilhjoeaa.Ni
theorem l07Prop_f {x : Int} (h : litOk x = true) : spec_l07Prop.f x = some (prp x) := by
 have := (litOk_iff x).1 h
 unfold spec_l07Prop.f prp
 split
 ·rw [wrap_id (by omega) (by omega)]
 ·rfl
theorem propOf_f {x : Int} (h : litOk x = true) : impl_propOf.f x = some (prp x) := by
 have := (litOk_iff x).1 h
 unfold impl_propOf.f prp mx
 rw [wrap_id (by omega) (by omega)]
 congr 1
 split <;> split <;> omega
theorem spec_LabelOk_f (l : List Int) (hl : l.length ≤ 9223372036854775807) (k : Nat) (hk : 2 ^ 64 ≤ k) : spec_LabelOk.f k l = some (labB l) := by
 have key := loop_up l.length (fun k i => (0 < i → litOk (l.getD (i - 1) 0) = true) → spec_LabelOk.l0 k l l l.length (i : Int) = some (labFrom (if i = 0 then 0 else prp (l.getD (i - 1) 0)) (l.drop i))) 0
  (fun k _ _ => by simp [spec_LabelOk.l0, labFrom])
  (fun k i _ hi ih hb => by
   simp only [spec_LabelOk.l0]
   rw [if_pos (by omega), if_pos (by omega), if_pos (by omega), rd_nat, wrap_nat hi (by omega), drop_cons hi 0]
   unfold labFrom
   have ih' := fun h => ih (fun _ => h)
   simp only [Nat.add_sub_cancel, Nat.add_eq_zero_iff, Nat.one_ne_zero, and_false, if_false] at ih'
   by_cases h0 : l.getD i 0 = 0
   ·rw [if_pos h0, h0]; simp [litOk]
   rw [if_neg h0]
   unfold spec_l01In.f
   by_cases h1 : l.getD i 0 ≥ -3
   ·rw [if_pos h1, Option.bind_some]
    by_cases h2 : l.getD i 0 ≤ 3
    ·have hok : litOk (l.getD i 0) = true := (litOk_iff _).2 ⟨h0, h1, h2⟩
     have hp := prp_pos hok
     rw [if_pos (by simpa using h2)]
     by_cases hi0 : i = 0
     ·subst hi0
      rw [if_neg (by omega), ih' hok, hok]
      simp only [Bool.true_and, if_true]
      rw [decide_eq_true (show (0 : Int) < prp (l.getD 0 0) by omega)]
      rfl
     ·rw [if_pos (by omega), wrap_pred (by omega) (by omega), if_pos (by omega), if_pos (by omega), rd_nat, l07Prop_f (hb (by omega)), Option.bind_some, l07Prop_f hok, Option.bind_some, if_neg hi0, hok]
      by_cases hlt : prp (l.getD (i - 1) 0) < prp (l.getD i 0)
      ·rw [if_neg (by omega), ih' hok, decide_eq_true hlt]; rfl
      ·rw [if_pos (by omega), decide_eq_false hlt]; rfl
    ·rw [if_neg (by simpa using h2)]
     rw [show litOk (l.getD i 0) = false from Bool.eq_false_iff.2 fun h => by have := (litOk_iff _).1 h; omega]; rfl
   ·rw [if_neg h1, Option.bind_some, if_neg (by decide)]
    rw [show litOk (l.getD i 0) = false from Bool.eq_false_iff.2 fun h => by have := (litOk_iff _).1 h; omega]; rfl) 0 k (Nat.zero_le _) (by omega)
 unfold spec_LabelOk.f labB
 have := key (fun h => absurd h (by omega))
 simpa using this
theorem impl_LabelOk_f (l : List Int) (hl : l.length ≤ 9223372036854775807) (k : Nat) (hk : 2 ^ 64 ≤ k) : impl_LabelOk.f k l = some (labB l) := by
 have key := loop_up l.length (fun k i => (0 < i → litOk (l.getD (i - 1) 0) = true) → impl_LabelOk.l0 k l l l.length (i : Int) = some (labFrom (if i = 0 then 0 else prp (l.getD (i - 1) 0)) (l.drop i))) 0
  (fun k _ _ => by simp [impl_LabelOk.l0, labFrom])
  (fun k i _ hi ih hb => by
   simp only [impl_LabelOk.l0]
   rw [if_pos (by omega), if_pos (by omega), if_pos (by omega), rd_nat, wrap_nat hi (by omega), drop_cons hi 0]
   unfold labFrom
   have ih' := fun h => ih (fun _ => h)
   simp only [Nat.add_sub_cancel, Nat.add_eq_zero_iff, Nat.one_ne_zero, and_false, if_false] at ih'
   by_cases h0 : l.getD i 0 = 0
   ·rw [if_pos h0, h0]; simp [litOk]
   rw [if_neg h0]
   by_cases h1 : l.getD i 0 ≥ -3
   ·rw [if_neg (by omega)]
    by_cases h2 : l.getD i 0 ≤ 3
    ·have hok : litOk (l.getD i 0) = true := (litOk_iff _).2 ⟨h0, h1, h2⟩
     have hp := prp_pos hok
     rw [if_neg (by omega)]
     by_cases hi0 : i = 0
     ·subst hi0
      rw [if_neg (by omega), ih' hok, hok]
      simp only [Bool.true_and, if_true]
      rw [decide_eq_true (show (0 : Int) < prp (l.getD 0 0) by omega)]
      rfl
     ·rw [if_pos (by omega), wrap_pred (by omega) (by omega), if_pos (by omega), if_pos (by omega), rd_nat, propOf_f (hb (by omega)), Option.bind_some, propOf_f hok, Option.bind_some, if_neg hi0, hok]
      by_cases hlt : prp (l.getD (i - 1) 0) < prp (l.getD i 0)
      ·rw [if_neg (by omega), ih' hok, decide_eq_true hlt]; rfl
      ·rw [if_pos (by omega), decide_eq_false hlt]; rfl
    ·rw [if_pos (by omega)]
     rw [show litOk (l.getD i 0) = false from Bool.eq_false_iff.2 fun h => by have := (litOk_iff _).1 h; omega]; rfl
   ·rw [if_pos (by omega)]
    rw [show litOk (l.getD i 0) = false from Bool.eq_false_iff.2 fun h => by have := (litOk_iff _).1 h; omega]; rfl) 0 k (Nat.zero_le _) (by omega)
 unfold impl_LabelOk.f labB
 have := key (fun h => absurd h (by omega))
 simpa using this
end Go.Proofs.Ytodfnelilhjoeaa.Pr

namespace Go.Proofs.Ytodfnelilhjoeaa.Pr
open Go.RowKit Go.Proofs.YtodfnelilhjoeaaW.PrintWords Go.Proofs.YtodfnelilhjoeaaW.PrintLast Go.Proofs.YtodfnelilhjoeaaW.PrintMore
attribute [local go_sem] max2_int min2_int max_two min_two max_three min_three max_four min_four
set_option linter.unusedVariables false
set_option linter.unusedSimpArgs false

/-! ### spec_NodeOk: function 153 -/
def spec_NodeOk.f (k : Nat) (a0_0 : ByteArray) (l0_1 : List Int) (a0_2 : Int) : Option (Bool) := (spec_IsName.f k a0_0).bind fun t153002 => (if t153002 = true then ((spec_LabelOk.f k l0_1).bind fun t153003 => (if t153003 = true then ((spec_l01In.f a0_2 0 3).bind fun t153004 => (some t153004)) else (some false))) else (some false))
set_option maxHeartbeats 8000000 in
set_option maxRecDepth 100000 in
theorem spec_NodeOk.calls (k : Nat) (a0_0 : ByteArray) (A0_1 : Option Addr) (c0_1 : Nat) (l0_1 : List Int) (a0_2 : Int) (r : Bool) (w : World) (hr0_1 : Kd.C (Kd.int .i64) w A0_1 l0_1.length l0_1) (hc0_1 : l0_1.length ≤ c0_1) (h : spec_NodeOk.f k a0_0 l0_1 a0_2 = some r) :
  Calls Try.prog 153 #[.agg #[.string a0_0, .slice A0_1 l0_1.length c0_1, .int .i64 a0_2]] w fun e w' => e = .returned (.bool r) ∧ Below w.heap.size w w' := by
 have hu116 := Try.underlying116
 have HR0_1 := Aside0.mk hr0_1; have HC0_1 := Aside0.mk hc0_1; clear hr0_1 hc0_1
 have HB := Aside0.mk (Below.refl w.heap.size w)
 have H : ((spec_IsName.f k a0_0).bind fun t153002 => (if t153002 = true then ((spec_LabelOk.f k l0_1).bind fun t153003 => (if t153003 = true then ((spec_l01In.f a0_2 0 3).bind fun t153004 => (some t153004)) else (some false))) else (some false))) = some r := h
 clear h
 replace H := Option.bind_eq_some_iff.mp H
 obtain ⟨t153002, A20, H⟩ := H
 replace H : (if t153002 = true then ((spec_LabelOk.f k l0_1).bind fun t153003 => (if t153003 = true then ((spec_l01In.f a0_2 0 3).bind fun t153004 => (some t153004)) else (some false))) else (some false)) = some r := H
 have A2 := Aside0.mk A20; clear A20
 by_cases c3 : t153002 = true
 ·subst c3
  have H1 : ((spec_LabelOk.f k l0_1).bind fun t153003 => (if t153003 = true then ((spec_l01In.f a0_2 0 3).bind fun t153004 => (some t153004)) else (some false))) = some r := by rw [if_pos rfl] at H; exact H
  clear H
  have H := H1
  clear H1
  replace H := Option.bind_eq_some_iff.mp H
  obtain ⟨t153003, A40, H⟩ := H
  replace H : (if t153003 = true then ((spec_l01In.f a0_2 0 3).bind fun t153004 => (some t153004)) else (some false)) = some r := H
  have A4 := Aside0.mk A40; clear A40
  by_cases c5 : t153003 = true
  ·subst c5
   have H1 : ((spec_l01In.f a0_2 0 3).bind fun t153004 => (some t153004)) = some r := by rw [if_pos rfl] at H; exact H
   clear H
   have H := H1
   clear H1
   replace H := Option.bind_eq_some_iff.mp H
   obtain ⟨t153004, A60, H⟩ := H
   replace H : (some t153004) = some r := H
   have A6 := Aside0.mk A60; clear A60
   obtain rfl := Option.some.inj H
   go_enter Try.func153, Try.ntmps153
   go_wp2_with (first | ((with_reducible refine gate_dst (N := 1) rfl ?_); refine box_event ?hg (N := 1) ?hd (cs := #[.string a0_0, .slice A0_1 l0_1.length c0_1, .int .i64 a0_2]) (t := 116) ?hr ?_; (case hd => rfl); (case hg => rfl); (case hr => first | (go_simp; done) | (go_simp; rfl)); intro gb153001 hg w7 hbox hb; have n0_ := Aside0.mk (below_step (by repeat (first | (with_reducible first | exact HB.out | apply below_alloc | apply pw_below_drewN | apply below_drew1) | exact HB.out)) hb); have n1_ := Aside0.mk (hbox); have n2_ := Aside0.mk ((by rw [hg]; exact (below_size (by repeat (first | (with_reducible first | exact HB.out | apply below_alloc | apply pw_below_drewN | apply below_drew1) | exact HB.out))) : w.heap.size ≤ gb153001)); have n3_ := Aside0.mk ((by rw [hg]; exact (below_size (by repeat (first | (with_reducible first | exact HB.out | apply below_alloc | apply pw_below_drewN | apply below_drew1) | exact HB.out))) : w.heap.size ≤ gb153001)); clear HB; have HB := n0_; have BK153001 := n1_; have GW153001 := n2_; have GE153001 := n3_; clear n0_ n1_ n2_ n3_; clear hb hbox hg; have hcz8_0 : w7.cell? ⟨gb153001, 0, none⟩ = some (.string a0_0) := (blk_cell BK153001.out 0).trans rfl; have hcz8_1 : w7.cell? ⟨gb153001, 1, none⟩ = some (.slice A0_1 l0_1.length c0_1) := (blk_cell BK153001.out 1).trans rfl; have hcz8_2 : w7.cell? ⟨gb153001, 2, none⟩ = some (.int .i64 a0_2) := (blk_cell BK153001.out 2).trans rfl; have hfz8_0 := blk_frozen BK153001.out 0; have hfz8_1 := blk_frozen BK153001.out 1; have hfz8_2 := blk_frozen BK153001.out 2) | ((with_reducible refine gate_callee (f := 173) rfl ?_); refine goesL_ (some 5) rfl rfl Try.func173 (by kernel_rfl) rfl #[.string a0_0] rfl (by (try simp only [List.map_toArray, List.map_cons, List.map_nil]); first | done | rfl | (simp only [List.length_drop, List.length_take]; rfl)) ?_; (with_reducible refine (spec_IsName.calls k a0_0 true _ A2.out).mono ?_); rintro e w' ⟨rfl, ⟨nd, rfl⟩⟩; refine ⟨_, rfl, ?_⟩) | (go_at_call 174; (with_reducible refine (spec_LabelOk.calls k _ _ l0_1 true _ ?side1 ?side2 A4.out).mono ?_); (case side1 => repeat (first | exact (Kd.C_below HR0_1.out (by repeat (first | (with_reducible first | exact HB.out | apply below_alloc | apply pw_below_drewN | apply below_drew1 | refine below_set ?_ GE153001.out) | exact HB.out))) | (with_reducible refine Kd.C_alloc ?_ _) | (with_reducible refine Kd.C_drewN ?_ _) | (with_reducible refine Kd.C_drew ?_))); (case side2 => exact HC0_1.out); rintro e w' ⟨rfl, ⟨nd, rfl⟩⟩) | (go_at_call 68; (with_reducible refine (spec_l01In.calls a0_2 0 3 t153004 _ A6.out).mono ?_); rintro e w' ⟨rfl, ⟨nd, rfl⟩⟩))
   go_ret
   exact ⟨by first | rfl | (simp [errW_none, errW_some] <;> rfl) | (simp [*, errW_none, errW_some] <;> rfl), by repeat (first | (with_reducible first | exact HB.out | apply below_alloc | apply pw_below_drewN | apply below_drew1 | refine below_set ?_ GE153001.out) | exact HB.out)⟩
  ·replace c5 := Bool.eq_false_iff.mpr c5
   subst c5
   have H1 : (some false) = some r := by rw [if_neg (show ¬ (false = true) by decide)] at H; exact H
   clear H
   have H := H1
   clear H1
   obtain rfl := Option.some.inj H
   go_enter Try.func153, Try.ntmps153
   go_wp2_with (first | ((with_reducible refine gate_dst (N := 1) rfl ?_); refine box_event ?hg (N := 1) ?hd (cs := #[.string a0_0, .slice A0_1 l0_1.length c0_1, .int .i64 a0_2]) (t := 116) ?hr ?_; (case hd => rfl); (case hg => rfl); (case hr => first | (go_simp; done) | (go_simp; rfl)); intro gb153001 hg w9 hbox hb; have n0_ := Aside0.mk (below_step (by repeat (first | (with_reducible first | exact HB.out | apply below_alloc | apply pw_below_drewN | apply below_drew1) | exact HB.out)) hb); have n1_ := Aside0.mk (hbox); have n2_ := Aside0.mk ((by rw [hg]; exact (below_size (by repeat (first | (with_reducible first | exact HB.out | apply below_alloc | apply pw_below_drewN | apply below_drew1) | exact HB.out))) : w.heap.size ≤ gb153001)); have n3_ := Aside0.mk ((by rw [hg]; exact (below_size (by repeat (first | (with_reducible first | exact HB.out | apply below_alloc | apply pw_below_drewN | apply below_drew1) | exact HB.out))) : w.heap.size ≤ gb153001)); clear HB; have HB := n0_; have BK153001 := n1_; have GW153001 := n2_; have GE153001 := n3_; clear n0_ n1_ n2_ n3_; clear hb hbox hg; have hcz10_0 : w9.cell? ⟨gb153001, 0, none⟩ = some (.string a0_0) := (blk_cell BK153001.out 0).trans rfl; have hcz10_1 : w9.cell? ⟨gb153001, 1, none⟩ = some (.slice A0_1 l0_1.length c0_1) := (blk_cell BK153001.out 1).trans rfl; have hcz10_2 : w9.cell? ⟨gb153001, 2, none⟩ = some (.int .i64 a0_2) := (blk_cell BK153001.out 2).trans rfl; have hfz10_0 := blk_frozen BK153001.out 0; have hfz10_1 := blk_frozen BK153001.out 1; have hfz10_2 := blk_frozen BK153001.out 2) | ((with_reducible refine gate_callee (f := 173) rfl ?_); refine goesL_ (some 5) rfl rfl Try.func173 (by kernel_rfl) rfl #[.string a0_0] rfl (by (try simp only [List.map_toArray, List.map_cons, List.map_nil]); first | done | rfl | (simp only [List.length_drop, List.length_take]; rfl)) ?_; (with_reducible refine (spec_IsName.calls k a0_0 true _ A2.out).mono ?_); rintro e w' ⟨rfl, ⟨nd, rfl⟩⟩; refine ⟨_, rfl, ?_⟩) | (go_at_call 174; (with_reducible refine (spec_LabelOk.calls k _ _ l0_1 false _ ?side1 ?side2 A4.out).mono ?_); (case side1 => repeat (first | exact (Kd.C_below HR0_1.out (by repeat (first | (with_reducible first | exact HB.out | apply below_alloc | apply pw_below_drewN | apply below_drew1 | refine below_set ?_ GE153001.out) | exact HB.out))) | (with_reducible refine Kd.C_alloc ?_ _) | (with_reducible refine Kd.C_drewN ?_ _) | (with_reducible refine Kd.C_drew ?_))); (case side2 => exact HC0_1.out); rintro e w' ⟨rfl, ⟨nd, rfl⟩⟩))
   go_ret
   exact ⟨by first | rfl | (simp [errW_none, errW_some] <;> rfl) | (simp [*, errW_none, errW_some] <;> rfl), by repeat (first | (with_reducible first | exact HB.out | apply below_alloc | apply pw_below_drewN | apply below_drew1 | refine below_set ?_ GE153001.out) | exact HB.out)⟩
 ·replace c3 := Bool.eq_false_iff.mpr c3
  subst c3
  have H1 : (some false) = some r := by rw [if_neg (show ¬ (false = true) by decide)] at H; exact H
  clear H
  have H := H1
  clear H1
  obtain rfl := Option.some.inj H
  go_enter Try.func153, Try.ntmps153
  go_wp2_with (first | ((with_reducible refine gate_dst (N := 1) rfl ?_); refine box_event ?hg (N := 1) ?hd (cs := #[.string a0_0, .slice A0_1 l0_1.length c0_1, .int .i64 a0_2]) (t := 116) ?hr ?_; (case hd => rfl); (case hg => rfl); (case hr => first | (go_simp; done) | (go_simp; rfl)); intro gb153001 hg w11 hbox hb; have n0_ := Aside0.mk (below_step (by repeat (first | (with_reducible first | exact HB.out | apply below_alloc | apply pw_below_drewN | apply below_drew1) | exact HB.out)) hb); have n1_ := Aside0.mk (hbox); have n2_ := Aside0.mk ((by rw [hg]; exact (below_size (by repeat (first | (with_reducible first | exact HB.out | apply below_alloc | apply pw_below_drewN | apply below_drew1) | exact HB.out))) : w.heap.size ≤ gb153001)); have n3_ := Aside0.mk ((by rw [hg]; exact (below_size (by repeat (first | (with_reducible first | exact HB.out | apply below_alloc | apply pw_below_drewN | apply below_drew1) | exact HB.out))) : w.heap.size ≤ gb153001)); clear HB; have HB := n0_; have BK153001 := n1_; have GW153001 := n2_; have GE153001 := n3_; clear n0_ n1_ n2_ n3_; clear hb hbox hg; have hcz12_0 : w11.cell? ⟨gb153001, 0, none⟩ = some (.string a0_0) := (blk_cell BK153001.out 0).trans rfl; have hcz12_1 : w11.cell? ⟨gb153001, 1, none⟩ = some (.slice A0_1 l0_1.length c0_1) := (blk_cell BK153001.out 1).trans rfl; have hcz12_2 : w11.cell? ⟨gb153001, 2, none⟩ = some (.int .i64 a0_2) := (blk_cell BK153001.out 2).trans rfl; have hfz12_0 := blk_frozen BK153001.out 0; have hfz12_1 := blk_frozen BK153001.out 1; have hfz12_2 := blk_frozen BK153001.out 2) | ((with_reducible refine gate_callee (f := 173) rfl ?_); refine goesL_ (some 5) rfl rfl Try.func173 (by kernel_rfl) rfl #[.string a0_0] rfl (by (try simp only [List.map_toArray, List.map_cons, List.map_nil]); first | done | rfl | (simp only [List.length_drop, List.length_take]; rfl)) ?_; (with_reducible refine (spec_IsName.calls k a0_0 false _ A2.out).mono ?_); rintro e w' ⟨rfl, ⟨nd, rfl⟩⟩; refine ⟨_, rfl, ?_⟩))
  go_ret
  exact ⟨by first | rfl | (simp [errW_none, errW_some] <;> rfl) | (simp [*, errW_none, errW_some] <;> rfl), by repeat (first | (with_reducible first | exact HB.out | apply below_alloc | apply pw_below_drewN | apply below_drew1 | refine below_set ?_ GE153001.out) | exact HB.out)⟩

end Go.Proofs.Ytodfnelilhjoeaa.Pr

namespace Go.Proofs.Ytodfnelilhjoeaa.Pr
open Go.RowKit Go.Proofs.YtodfnelilhjoeaaW.PrintWords Go.Proofs.YtodfnelilhjoeaaW.PrintLast Go.Proofs.YtodfnelilhjoeaaW.PrintMore
attribute [local go_sem] max2_int min2_int max_two min_two max_three min_three max_four min_four
set_option linter.unusedVariables false
set_option linter.unusedSimpArgs false

/-! ### impl_NodeOk: function 157 -/
def impl_NodeOk.f (k : Nat) (a0_0 : ByteArray) (l0_1 : List Int) (a0_2 : Int) : Option (Bool) := (impl_IsName.f k a0_0).bind fun t157002 => (if t157002 = true then ((impl_LabelOk.f k l0_1).bind fun t157003 => (if t157003 = true then (if a0_2 ≥ 0 then (some (decide (a0_2 ≤ 3))) else (some false)) else (some false))) else (some false))
set_option maxHeartbeats 8000000 in
set_option maxRecDepth 100000 in
theorem impl_NodeOk.calls (k : Nat) (a0_0 : ByteArray) (A0_1 : Option Addr) (c0_1 : Nat) (l0_1 : List Int) (a0_2 : Int) (r : Bool) (w : World) (hr0_1 : Kd.C (Kd.int .i64) w A0_1 l0_1.length l0_1) (hc0_1 : l0_1.length ≤ c0_1) (h : impl_NodeOk.f k a0_0 l0_1 a0_2 = some r) :
  Calls Try.prog 157 #[.agg #[.string a0_0, .slice A0_1 l0_1.length c0_1, .int .i64 a0_2]] w fun e w' => e = .returned (.bool r) ∧ Below w.heap.size w w' := by
 have hu116 := Try.underlying116
 have HR0_1 := Aside0.mk hr0_1; have HC0_1 := Aside0.mk hc0_1; clear hr0_1 hc0_1
 have HB := Aside0.mk (Below.refl w.heap.size w)
 have H : ((impl_IsName.f k a0_0).bind fun t157002 => (if t157002 = true then ((impl_LabelOk.f k l0_1).bind fun t157003 => (if t157003 = true then (if a0_2 ≥ 0 then (some (decide (a0_2 ≤ 3))) else (some false)) else (some false))) else (some false))) = some r := h
 clear h
 replace H := Option.bind_eq_some_iff.mp H
 obtain ⟨t157002, A20, H⟩ := H
 replace H : (if t157002 = true then ((impl_LabelOk.f k l0_1).bind fun t157003 => (if t157003 = true then (if a0_2 ≥ 0 then (some (decide (a0_2 ≤ 3))) else (some false)) else (some false))) else (some false)) = some r := H
 have A2 := Aside0.mk A20; clear A20
 by_cases c3 : t157002 = true
 ·subst c3
  have H1 : ((impl_LabelOk.f k l0_1).bind fun t157003 => (if t157003 = true then (if a0_2 ≥ 0 then (some (decide (a0_2 ≤ 3))) else (some false)) else (some false))) = some r := by rw [if_pos rfl] at H; exact H
  clear H
  have H := H1
  clear H1
  replace H := Option.bind_eq_some_iff.mp H
  obtain ⟨t157003, A40, H⟩ := H
  replace H : (if t157003 = true then (if a0_2 ≥ 0 then (some (decide (a0_2 ≤ 3))) else (some false)) else (some false)) = some r := H
  have A4 := Aside0.mk A40; clear A40
  by_cases c5 : t157003 = true
  ·subst c5
   have H1 : (if a0_2 ≥ 0 then (some (decide (a0_2 ≤ 3))) else (some false)) = some r := by rw [if_pos rfl] at H; exact H
   clear H
   have H := H1
   clear H1
   by_cases c6 : a0_2 ≥ 0
   ·rw [if_pos c6] at H
    have c6b0 : decide (0 ≤ a0_2) = true := decide_eq_true c6
    clear c6
    obtain rfl := Option.some.inj H
    go_enter Try.func157, Try.ntmps157
    go_wp2_with (first | ((with_reducible refine gate_dst (N := 1) rfl ?_); refine box_event ?hg (N := 1) ?hd (cs := #[.string a0_0, .slice A0_1 l0_1.length c0_1, .int .i64 a0_2]) (t := 116) ?hr ?_; (case hd => rfl); (case hg => rfl); (case hr => first | (go_simp; done) | (go_simp; rfl)); intro gb157001 hg w7 hbox hb; have n0_ := Aside0.mk (below_step (by repeat (first | (with_reducible first | exact HB.out | apply below_alloc | apply pw_below_drewN | apply below_drew1) | exact HB.out)) hb); have n1_ := Aside0.mk (hbox); have n2_ := Aside0.mk ((by rw [hg]; exact (below_size (by repeat (first | (with_reducible first | exact HB.out | apply below_alloc | apply pw_below_drewN | apply below_drew1) | exact HB.out))) : w.heap.size ≤ gb157001)); have n3_ := Aside0.mk ((by rw [hg]; exact (below_size (by repeat (first | (with_reducible first | exact HB.out | apply below_alloc | apply pw_below_drewN | apply below_drew1) | exact HB.out))) : w.heap.size ≤ gb157001)); clear HB; have HB := n0_; have BK157001 := n1_; have GW157001 := n2_; have GE157001 := n3_; clear n0_ n1_ n2_ n3_; clear hb hbox hg; have hcz8_0 : w7.cell? ⟨gb157001, 0, none⟩ = some (.string a0_0) := (blk_cell BK157001.out 0).trans rfl; have hcz8_1 : w7.cell? ⟨gb157001, 1, none⟩ = some (.slice A0_1 l0_1.length c0_1) := (blk_cell BK157001.out 1).trans rfl; have hcz8_2 : w7.cell? ⟨gb157001, 2, none⟩ = some (.int .i64 a0_2) := (blk_cell BK157001.out 2).trans rfl; have hfz8_0 := blk_frozen BK157001.out 0; have hfz8_1 := blk_frozen BK157001.out 1; have hfz8_2 := blk_frozen BK157001.out 2) | ((with_reducible refine gate_callee (f := 175) rfl ?_); refine goesL_ (some 5) rfl rfl Try.func175 (by kernel_rfl) rfl #[.string a0_0] rfl (by (try simp only [List.map_toArray, List.map_cons, List.map_nil]); first | done | rfl | (simp only [List.length_drop, List.length_take]; rfl)) ?_; (with_reducible refine (impl_IsName.calls k a0_0 true _ A2.out).mono ?_); rintro e w' ⟨rfl, ⟨nd, rfl⟩⟩; refine ⟨_, rfl, ?_⟩) | (go_at_call 168; (with_reducible refine (impl_LabelOk.calls k _ _ l0_1 true _ ?side1 ?side2 A4.out).mono ?_); (case side1 => repeat (first | exact (Kd.C_below HR0_1.out (by repeat (first | (with_reducible first | exact HB.out | apply below_alloc | apply pw_below_drewN | apply below_drew1 | refine below_set ?_ GE157001.out) | exact HB.out))) | (with_reducible refine Kd.C_alloc ?_ _) | (with_reducible refine Kd.C_drewN ?_ _) | (with_reducible refine Kd.C_drew ?_))); (case side2 => exact HC0_1.out); rintro e w9 ⟨rfl, hb⟩; have n0_ := Aside0.mk (blk_below (g := gb157001) (o := .cells #[.string a0_0, .slice A0_1 l0_1.length c0_1, .int .i64 a0_2] 116 (0, 0)) (by (with_reducible repeat (first | refine blk_drewN ?_ _ | refine blk_drew ?_ | refine blk_alloc ?_ _)); exact BK157001.out) hb); have n1_ := Aside0.mk (below_step (by repeat (first | (with_reducible first | exact HB.out | apply below_alloc | apply pw_below_drewN | apply below_drew1 | refine below_set ?_ GE157001.out) | exact HB.out)) hb); clear BK157001; clear HB; have BK157001 := n0_; have HB := n1_; clear n0_ n1_; (try clear hb); (try clear hb2); (try clear hk); (try clear hi); have hcz10_0 : w9.cell? ⟨gb157001, 0, none⟩ = some (.string a0_0) := (blk_cell BK157001.out 0).trans rfl; have hcz10_1 : w9.cell? ⟨gb157001, 1, none⟩ = some (.slice A0_1 l0_1.length c0_1) := (blk_cell BK157001.out 1).trans rfl; have hcz10_2 : w9.cell? ⟨gb157001, 2, none⟩ = some (.int .i64 a0_2) := (blk_cell BK157001.out 2).trans rfl; have hfz10_0 := blk_frozen BK157001.out 0; have hfz10_1 := blk_frozen BK157001.out 1; have hfz10_2 := blk_frozen BK157001.out 2))
    go_ret
    exact ⟨by first | rfl | (simp [errW_none, errW_some] <;> rfl) | (simp [*, errW_none, errW_some] <;> rfl), by repeat (first | (with_reducible first | exact HB.out | apply below_alloc | apply pw_below_drewN | apply below_drew1 | refine below_set ?_ GE157001.out) | exact HB.out)⟩
   ·rw [if_neg c6] at H
    have c6b0 : decide (0 ≤ a0_2) = false := decide_eq_false c6
    clear c6
    obtain rfl := Option.some.inj H
    go_enter Try.func157, Try.ntmps157
    go_wp2_with (first | ((with_reducible refine gate_dst (N := 1) rfl ?_); refine box_event ?hg (N := 1) ?hd (cs := #[.string a0_0, .slice A0_1 l0_1.length c0_1, .int .i64 a0_2]) (t := 116) ?hr ?_; (case hd => rfl); (case hg => rfl); (case hr => first | (go_simp; done) | (go_simp; rfl)); intro gb157001 hg w11 hbox hb; have n0_ := Aside0.mk (below_step (by repeat (first | (with_reducible first | exact HB.out | apply below_alloc | apply pw_below_drewN | apply below_drew1) | exact HB.out)) hb); have n1_ := Aside0.mk (hbox); have n2_ := Aside0.mk ((by rw [hg]; exact (below_size (by repeat (first | (with_reducible first | exact HB.out | apply below_alloc | apply pw_below_drewN | apply below_drew1) | exact HB.out))) : w.heap.size ≤ gb157001)); have n3_ := Aside0.mk ((by rw [hg]; exact (below_size (by repeat (first | (with_reducible first | exact HB.out | apply below_alloc | apply pw_below_drewN | apply below_drew1) | exact HB.out))) : w.heap.size ≤ gb157001)); clear HB; have HB := n0_; have BK157001 := n1_; have GW157001 := n2_; have GE157001 := n3_; clear n0_ n1_ n2_ n3_; clear hb hbox hg; have hcz12_0 : w11.cell? ⟨gb157001, 0, none⟩ = some (.string a0_0) := (blk_cell BK157001.out 0).trans rfl; have hcz12_1 : w11.cell? ⟨gb157001, 1, none⟩ = some (.slice A0_1 l0_1.length c0_1) := (blk_cell BK157001.out 1).trans rfl; have hcz12_2 : w11.cell? ⟨gb157001, 2, none⟩ = some (.int .i64 a0_2) := (blk_cell BK157001.out 2).trans rfl; have hfz12_0 := blk_frozen BK157001.out 0; have hfz12_1 := blk_frozen BK157001.out 1; have hfz12_2 := blk_frozen BK157001.out 2) | ((with_reducible refine gate_callee (f := 175) rfl ?_); refine goesL_ (some 5) rfl rfl Try.func175 (by kernel_rfl) rfl #[.string a0_0] rfl (by (try simp only [List.map_toArray, List.map_cons, List.map_nil]); first | done | rfl | (simp only [List.length_drop, List.length_take]; rfl)) ?_; (with_reducible refine (impl_IsName.calls k a0_0 true _ A2.out).mono ?_); rintro e w' ⟨rfl, ⟨nd, rfl⟩⟩; refine ⟨_, rfl, ?_⟩) | (go_at_call 168; (with_reducible refine (impl_LabelOk.calls k _ _ l0_1 true _ ?side1 ?side2 A4.out).mono ?_); (case side1 => repeat (first | exact (Kd.C_below HR0_1.out (by repeat (first | (with_reducible first | exact HB.out | apply below_alloc | apply pw_below_drewN | apply below_drew1 | refine below_set ?_ GE157001.out) | exact HB.out))) | (with_reducible refine Kd.C_alloc ?_ _) | (with_reducible refine Kd.C_drewN ?_ _) | (with_reducible refine Kd.C_drew ?_))); (case side2 => exact HC0_1.out); rintro e w13 ⟨rfl, hb⟩; have n0_ := Aside0.mk (blk_below (g := gb157001) (o := .cells #[.string a0_0, .slice A0_1 l0_1.length c0_1, .int .i64 a0_2] 116 (0, 0)) (by (with_reducible repeat (first | refine blk_drewN ?_ _ | refine blk_drew ?_ | refine blk_alloc ?_ _)); exact BK157001.out) hb); have n1_ := Aside0.mk (below_step (by repeat (first | (with_reducible first | exact HB.out | apply below_alloc | apply pw_below_drewN | apply below_drew1 | refine below_set ?_ GE157001.out) | exact HB.out)) hb); clear BK157001; clear HB; have BK157001 := n0_; have HB := n1_; clear n0_ n1_; (try clear hb); (try clear hb2); (try clear hk); (try clear hi); have hcz14_0 : w13.cell? ⟨gb157001, 0, none⟩ = some (.string a0_0) := (blk_cell BK157001.out 0).trans rfl; have hcz14_1 : w13.cell? ⟨gb157001, 1, none⟩ = some (.slice A0_1 l0_1.length c0_1) := (blk_cell BK157001.out 1).trans rfl; have hcz14_2 : w13.cell? ⟨gb157001, 2, none⟩ = some (.int .i64 a0_2) := (blk_cell BK157001.out 2).trans rfl; have hfz14_0 := blk_frozen BK157001.out 0; have hfz14_1 := blk_frozen BK157001.out 1; have hfz14_2 := blk_frozen BK157001.out 2))
    go_ret
    exact ⟨by first | rfl | (simp [errW_none, errW_some] <;> rfl) | (simp [*, errW_none, errW_some] <;> rfl), by repeat (first | (with_reducible first | exact HB.out | apply below_alloc | apply pw_below_drewN | apply below_drew1 | refine below_set ?_ GE157001.out) | exact HB.out)⟩
  ·replace c5 := Bool.eq_false_iff.mpr c5
   subst c5
   have H1 : (some false) = some r := by rw [if_neg (show ¬ (false = true) by decide)] at H; exact H
   clear H
   have H := H1
   clear H1
   obtain rfl := Option.some.inj H
   go_enter Try.func157, Try.ntmps157
   go_wp2_with (first | ((with_reducible refine gate_dst (N := 1) rfl ?_); refine box_event ?hg (N := 1) ?hd (cs := #[.string a0_0, .slice A0_1 l0_1.length c0_1, .int .i64 a0_2]) (t := 116) ?hr ?_; (case hd => rfl); (case hg => rfl); (case hr => first | (go_simp; done) | (go_simp; rfl)); intro gb157001 hg w15 hbox hb; have n0_ := Aside0.mk (below_step (by repeat (first | (with_reducible first | exact HB.out | apply below_alloc | apply pw_below_drewN | apply below_drew1) | exact HB.out)) hb); have n1_ := Aside0.mk (hbox); have n2_ := Aside0.mk ((by rw [hg]; exact (below_size (by repeat (first | (with_reducible first | exact HB.out | apply below_alloc | apply pw_below_drewN | apply below_drew1) | exact HB.out))) : w.heap.size ≤ gb157001)); have n3_ := Aside0.mk ((by rw [hg]; exact (below_size (by repeat (first | (with_reducible first | exact HB.out | apply below_alloc | apply pw_below_drewN | apply below_drew1) | exact HB.out))) : w.heap.size ≤ gb157001)); clear HB; have HB := n0_; have BK157001 := n1_; have GW157001 := n2_; have GE157001 := n3_; clear n0_ n1_ n2_ n3_; clear hb hbox hg; have hcz16_0 : w15.cell? ⟨gb157001, 0, none⟩ = some (.string a0_0) := (blk_cell BK157001.out 0).trans rfl; have hcz16_1 : w15.cell? ⟨gb157001, 1, none⟩ = some (.slice A0_1 l0_1.length c0_1) := (blk_cell BK157001.out 1).trans rfl; have hcz16_2 : w15.cell? ⟨gb157001, 2, none⟩ = some (.int .i64 a0_2) := (blk_cell BK157001.out 2).trans rfl; have hfz16_0 := blk_frozen BK157001.out 0; have hfz16_1 := blk_frozen BK157001.out 1; have hfz16_2 := blk_frozen BK157001.out 2) | ((with_reducible refine gate_callee (f := 175) rfl ?_); refine goesL_ (some 5) rfl rfl Try.func175 (by kernel_rfl) rfl #[.string a0_0] rfl (by (try simp only [List.map_toArray, List.map_cons, List.map_nil]); first | done | rfl | (simp only [List.length_drop, List.length_take]; rfl)) ?_; (with_reducible refine (impl_IsName.calls k a0_0 true _ A2.out).mono ?_); rintro e w' ⟨rfl, ⟨nd, rfl⟩⟩; refine ⟨_, rfl, ?_⟩) | (go_at_call 168; (with_reducible refine (impl_LabelOk.calls k _ _ l0_1 false _ ?side1 ?side2 A4.out).mono ?_); (case side1 => repeat (first | exact (Kd.C_below HR0_1.out (by repeat (first | (with_reducible first | exact HB.out | apply below_alloc | apply pw_below_drewN | apply below_drew1 | refine below_set ?_ GE157001.out) | exact HB.out))) | (with_reducible refine Kd.C_alloc ?_ _) | (with_reducible refine Kd.C_drewN ?_ _) | (with_reducible refine Kd.C_drew ?_))); (case side2 => exact HC0_1.out); rintro e w17 ⟨rfl, hb⟩; have n0_ := Aside0.mk (blk_below (g := gb157001) (o := .cells #[.string a0_0, .slice A0_1 l0_1.length c0_1, .int .i64 a0_2] 116 (0, 0)) (by (with_reducible repeat (first | refine blk_drewN ?_ _ | refine blk_drew ?_ | refine blk_alloc ?_ _)); exact BK157001.out) hb); have n1_ := Aside0.mk (below_step (by repeat (first | (with_reducible first | exact HB.out | apply below_alloc | apply pw_below_drewN | apply below_drew1 | refine below_set ?_ GE157001.out) | exact HB.out)) hb); clear BK157001; clear HB; have BK157001 := n0_; have HB := n1_; clear n0_ n1_; (try clear hb); (try clear hb2); (try clear hk); (try clear hi)))
   go_ret
   exact ⟨by first | rfl | (simp [errW_none, errW_some] <;> rfl) | (simp [*, errW_none, errW_some] <;> rfl), by repeat (first | (with_reducible first | exact HB.out | apply below_alloc | apply pw_below_drewN | apply below_drew1 | refine below_set ?_ GE157001.out) | exact HB.out)⟩
 ·replace c3 := Bool.eq_false_iff.mpr c3
  subst c3
  have H1 : (some false) = some r := by rw [if_neg (show ¬ (false = true) by decide)] at H; exact H
  clear H
  have H := H1
  clear H1
  obtain rfl := Option.some.inj H
  go_enter Try.func157, Try.ntmps157
  go_wp2_with (first | ((with_reducible refine gate_dst (N := 1) rfl ?_); refine box_event ?hg (N := 1) ?hd (cs := #[.string a0_0, .slice A0_1 l0_1.length c0_1, .int .i64 a0_2]) (t := 116) ?hr ?_; (case hd => rfl); (case hg => rfl); (case hr => first | (go_simp; done) | (go_simp; rfl)); intro gb157001 hg w18 hbox hb; have n0_ := Aside0.mk (below_step (by repeat (first | (with_reducible first | exact HB.out | apply below_alloc | apply pw_below_drewN | apply below_drew1) | exact HB.out)) hb); have n1_ := Aside0.mk (hbox); have n2_ := Aside0.mk ((by rw [hg]; exact (below_size (by repeat (first | (with_reducible first | exact HB.out | apply below_alloc | apply pw_below_drewN | apply below_drew1) | exact HB.out))) : w.heap.size ≤ gb157001)); have n3_ := Aside0.mk ((by rw [hg]; exact (below_size (by repeat (first | (with_reducible first | exact HB.out | apply below_alloc | apply pw_below_drewN | apply below_drew1) | exact HB.out))) : w.heap.size ≤ gb157001)); clear HB; have HB := n0_; have BK157001 := n1_; have GW157001 := n2_; have GE157001 := n3_; clear n0_ n1_ n2_ n3_; clear hb hbox hg; have hcz19_0 : w18.cell? ⟨gb157001, 0, none⟩ = some (.string a0_0) := (blk_cell BK157001.out 0).trans rfl; have hcz19_1 : w18.cell? ⟨gb157001, 1, none⟩ = some (.slice A0_1 l0_1.length c0_1) := (blk_cell BK157001.out 1).trans rfl; have hcz19_2 : w18.cell? ⟨gb157001, 2, none⟩ = some (.int .i64 a0_2) := (blk_cell BK157001.out 2).trans rfl; have hfz19_0 := blk_frozen BK157001.out 0; have hfz19_1 := blk_frozen BK157001.out 1; have hfz19_2 := blk_frozen BK157001.out 2) | ((with_reducible refine gate_callee (f := 175) rfl ?_); refine goesL_ (some 5) rfl rfl Try.func175 (by kernel_rfl) rfl #[.string a0_0] rfl (by (try simp only [List.map_toArray, List.map_cons, List.map_nil]); first | done | rfl | (simp only [List.length_drop, List.length_take]; rfl)) ?_; (with_reducible refine (impl_IsName.calls k a0_0 false _ A2.out).mono ?_); rintro e w' ⟨rfl, ⟨nd, rfl⟩⟩; refine ⟨_, rfl, ?_⟩))
  go_ret
  exact ⟨by first | rfl | (simp [errW_none, errW_some] <;> rfl) | (simp [*, errW_none, errW_some] <;> rfl), by repeat (first | (with_reducible first | exact HB.out | apply below_alloc | apply pw_below_drewN | apply below_drew1 | refine below_set ?_ GE157001.out) | exact HB.out)⟩

end Go.Proofs.Ytodfnelilhjoeaa.Pr

namespace Go.Proofs.Ytodfnelilhjoeaa.Pr
open Go.RowKit Go.Proofs.YtodfnelilhjoeaaW.PrintWords Go.Proofs.Ytodfnelilhjoeaa.Ni
def nodeB (s : ByteArray) (l : List Int) (n : Int) : Bool := nameB s && labB l && (decide (0 ≤ n) && decide (n ≤ 3))
theorem spec_NodeOk_f (s : ByteArray) (l : List Int) (n : Int) (hs : s.size ≤ 9223372036854775807) (hl : l.length ≤ 9223372036854775807) (k : Nat) (hk : 2 ^ 64 ≤ k) : spec_NodeOk.f k s l n = some (nodeB s l n) := by
 unfold spec_NodeOk.f nodeB spec_l01In.f
 rw [spec_IsName_f s hs k hk, Option.bind_some, spec_LabelOk_f l hl k hk]
 cases nameB s
 ·rfl
 ·rw [if_pos rfl, Option.bind_some]
  cases labB l
  ·rfl
  ·rw [if_pos rfl]
   by_cases h : n ≥ 0
   ·rw [if_pos h, decide_eq_true (show (0 : Int) ≤ n from h)]; rfl
   ·rw [if_neg h, decide_eq_false (show ¬ (0 : Int) ≤ n from h)]; rfl
theorem impl_NodeOk_f (s : ByteArray) (l : List Int) (n : Int) (hs : s.size ≤ 9223372036854775807) (hl : l.length ≤ 9223372036854775807) (k : Nat) (hk : 2 ^ 64 ≤ k) : impl_NodeOk.f k s l n = some (nodeB s l n) := by
 unfold impl_NodeOk.f nodeB
 rw [impl_IsName_f s hs k hk, Option.bind_some, impl_LabelOk_f l hl k hk]
 cases nameB s
 ·rfl
 ·rw [if_pos rfl, Option.bind_some]
  cases labB l
  ·rfl
  ·rw [if_pos rfl]
   by_cases h : n ≥ 0
   ·rw [if_pos h, decide_eq_true (show (0 : Int) ≤ n from h)]; rfl
   ·rw [if_neg h, decide_eq_false (show ¬ (0 : Int) ≤ n from h)]; rfl
end Go.Proofs.Ytodfnelilhjoeaa.Pr

namespace Go.Proofs.Ytodfnelilhjoeaa.Pr
open Go.RowKit Go.Proofs.YtodfnelilhjoeaaW.PrintWords Go.Proofs.YtodfnelilhjoeaaW.PrintLast Go.Proofs.YtodfnelilhjoeaaW.PrintMore
attribute [local go_sem] max2_int min2_int max_two min_two max_three min_three max_four min_four
set_option linter.unusedVariables false
set_option linter.unusedSimpArgs false

/-! ### impl_areNodes: function 121 -/
mutual
def impl_areNodes.j0 : Nat → Bool → List (S116) → List (S90) → Int → Option (Bool)
 | 0, _, _, _, _ => none
 | k + 1, x33, x121002000, x121002001, x121002002 => if x33 = true then (some false) else (impl_areNodes.l0 k x121002000 (x121002000.length : Int) 0 x121002000 x121002001 x121002002)
def impl_areNodes.l0 : Nat → List (S116) → Int → Int → List (S116) → List (S90) → Int → Option (Bool)
 | 0, _, _, _, _, _, _ => none
 | k + 1, x35, x36, x37, x121002000, x121002001, x121002002 => if x37 < x36 then (if 0 ≤ x37 then (if x37 < (x35.length : Int) then ((impl_NodeOk.f k ((rd_T116 x35 x37).f0) ((rd_T116 x35 x37).f1) ((rd_T116 x35 x37).f2)).bind fun t121006 => (if t121006 = true then (if x37 ≤ (x121002000.length : Int) then ((some (x121002000.take (x37 : Int).toNat : List (S116))).bind fun y121007 => (impl_areNodes.l1 k x35 x36 x37 y121007 (y121007.length : Int) 0 x121002000 x121002001 x121002002 ((rd_T116 x35 x37).f0) ((rd_T116 x35 x37).f1) ((rd_T116 x35 x37).f2))) else (none)) else (some false))) else (none)) else (none)) else (some true)
def impl_areNodes.l1 : Nat → List (S116) → Int → Int → List (S116) → Int → Int → List (S116) → List (S90) → Int → ByteArray → List Int → Int → Option (Bool)
 | 0, _, _, _, _, _, _, _, _, _, _, _, _ => none
 | k + 1, x35, x36, x37, x48, x49, x50, x121002000, x121002001, x121002002, x121006000, x121006001, x121006002 => if x50 < x49 then (if 0 ≤ x50 then (if x50 < (x48.length : Int) then (if ((rd_T116 x48 x50).f0).toList = x121006000.toList then (some false) else (if x121006002 = 0 then (impl_areNodes.l1 k x35 x36 x37 x48 x49 (wrap64 (x50 + 1)) x121002000 x121002001 x121002002 x121006000 x121006001 x121006002) else (if ((rd_T116 x48 x50).f2) = x121006002 then (some false) else (impl_areNodes.l1 k x35 x36 x37 x48 x49 (wrap64 (x50 + 1)) x121002000 x121002001 x121002002 x121006000 x121006001 x121006002)))) else (none)) else (none)) else (impl_areNodes.l0 k x35 x36 (wrap64 (x37 + 1)) x121002000 x121002001 x121002002)
end
def impl_areNodes.f (k : Nat) (l0_0 : List (S116)) (l0_1 : List (S90)) (a0_2 : Int) : Option (Bool) := if (l0_0.length : Int) < 1 then (impl_areNodes.j0 k true l0_0 l0_1 a0_2) else (if (l0_0.length : Int) > 7 then (impl_areNodes.j0 k true l0_0 l0_1 a0_2) else (if 0 < (l0_0.length : Int) then (if (((rd_T116 l0_0 0).f1).length : Int) > 0 then (impl_areNodes.j0 k true l0_0 l0_1 a0_2) else (impl_areNodes.j0 k (((rd_T116 l0_0 0).f2) != 0) l0_0 l0_1 a0_2)) else (none)))
set_option maxHeartbeats 8000000 in
set_option maxRecDepth 100000 in
theorem impl_areNodes.calls (k : Nat) (A0_0 : Option Addr) (c0_0 : Nat) (l0_0 : List (S116)) (A0_1 : Option Addr) (c0_1 : Nat) (l0_1 : List (S90)) (a0_2 : Int) (r : Bool) (w : World) (hr0_0 : Kd.C k116 w A0_0 l0_0.length l0_0) (hc0_0 : l0_0.length ≤ c0_0) (hr0_1 : Kd.C k90 w A0_1 l0_1.length l0_1) (hc0_1 : l0_1.length ≤ c0_1) (h : impl_areNodes.f k l0_0 l0_1 a0_2 = some r) :
  Calls Try.prog 121 #[.agg #[.slice A0_0 l0_0.length c0_0, .slice A0_1 l0_1.length c0_1, .int .i64 a0_2]] w fun e w' => e = .returned (.bool r) ∧ Below w.heap.size w w' := by
 have hu35 := Try.underlying35
 have hu116 := Try.underlying116
 have HR0_0 := Aside0.mk hr0_0; have HC0_0 := Aside0.mk hc0_0; clear hr0_0 hc0_0; have HR0_1 := Aside0.mk hr0_1; have HC0_1 := Aside0.mk hc0_1; clear hr0_1 hc0_1
 have HB := Aside0.mk (Below.refl w.heap.size w)
 have H : (if (l0_0.length : Int) < 1 then (impl_areNodes.j0 k true l0_0 l0_1 a0_2) else (if (l0_0.length : Int) > 7 then (impl_areNodes.j0 k true l0_0 l0_1 a0_2) else (if 0 < (l0_0.length : Int) then (if (((rd_T116 l0_0 0).f1).length : Int) > 0 then (impl_areNodes.j0 k true l0_0 l0_1 a0_2) else (impl_areNodes.j0 k (((rd_T116 l0_0 0).f2) != 0) l0_0 l0_1 a0_2)) else (none)))) = some r := h
 clear h; have HC2 := Aside0.mk H; clear H
 go_enter Try.func121, Try.ntmps121
 go_upto_region 1 with (first | ((with_reducible refine gate_dst (N := 1) rfl ?_); refine box_event ?hg (N := 1) ?hd (cs := #[.slice A0_0 l0_0.length c0_0, .slice A0_1 l0_1.length c0_1, .int .i64 a0_2]) (t := 35) ?hr ?_; (case hd => rfl); (case hg => rfl); (case hr => first | (go_simp; done) | (go_simp; rfl)); intro gb121001 hg w3 hbox hb; have n0_ := Aside0.mk (below_step (by repeat (first | (with_reducible first | exact HB.out | apply below_alloc | apply pw_below_drewN | apply below_drew1) | exact HB.out)) hb); have n1_ := Aside0.mk (hbox); have n2_ := Aside0.mk ((by rw [hg]; exact (below_size (by repeat (first | (with_reducible first | exact HB.out | apply below_alloc | apply pw_below_drewN | apply below_drew1) | exact HB.out))) : w.heap.size ≤ gb121001)); have n3_ := Aside0.mk ((by rw [hg]; exact (below_size (by repeat (first | (with_reducible first | exact HB.out | apply below_alloc | apply pw_below_drewN | apply below_drew1) | exact HB.out))) : w.heap.size ≤ gb121001)); clear HB; have HB := n0_; have BK121001 := n1_; have GW121001 := n2_; have GE121001 := n3_; clear n0_ n1_ n2_ n3_; clear hb hbox hg))
 (try simp only [Act.put, List.setIfInBounds_toArray, List.set_cons_zero, List.set_cons_succ])
 go_cut [33] (fun v33 wc => ∃ (kq : Nat) (x33_1 : Bool), v33 = .bool x33_1 ∧ Aside0 (impl_areNodes.j0 kq x33_1 l0_0 l0_1 a0_2 = some r) ∧ Aside0 (kq ≤ k) ∧ Aside0 (wc.heap[gb121001]? = some (.cells #[(.slice A0_0 l0_0.length c0_0), (.slice A0_1 l0_1.length c0_1), .int .i64 a0_2] 35 (0, 0))) ∧ Aside0 (Below w.heap.size w wc))
 case first =>
  have H := HC2.out
  clear HC2
  by_cases c4 : (l0_0.length : Int) < 1
  ·rw [if_pos c4] at H
   have c4b0 : decide ((l0_0.length : Int) < 1) = true := decide_eq_true c4
   have c4b1 : decide (l0_0.length < 1) = true := decide_eq_true (by omega)
   clear c4
   (first | rw [c4b0] | (simp only [i64_w, i32_w]; rw [c4b0]) | skip)
   have H' := Aside0.mk H
   clear H
   have hcz5_0 : w3.cell? ⟨gb121001, 0, none⟩ = some (.slice A0_0 l0_0.length c0_0) := (blk_cell BK121001.out 0).trans rfl
   have hcz5_1 : w3.cell? ⟨gb121001, 1, none⟩ = some (.slice A0_1 l0_1.length c0_1) := (blk_cell BK121001.out 1).trans rfl
   have hcz5_2 : w3.cell? ⟨gb121001, 2, none⟩ = some (.int .i64 a0_2) := (blk_cell BK121001.out 2).trans rfl
   have hfz5_0 := blk_frozen BK121001.out 0
   have hfz5_1 := blk_frozen BK121001.out 1
   have hfz5_2 := blk_frozen BK121001.out 2
   go_wp2
   go_meet
   case rel => exact ⟨_, (true), (by first | rfl | (simp; done) | (simp [*]; done)), H', ⟨by first | omega | exact Nat.le_refl _⟩, ⟨by (with_reducible repeat (first | refine blk_drewN ?_ _ | refine blk_drew ?_ | refine blk_alloc ?_ _)); exact BK121001.out⟩, ⟨by repeat (first | (with_reducible first | exact HB.out | apply below_alloc | apply pw_below_drewN | apply below_drew1 | refine below_set ?_ GE121001.out) | exact HB.out)⟩⟩
  ·rw [if_neg c4] at H
   have c4b0 : decide ((l0_0.length : Int) < 1) = false := decide_eq_false c4
   have c4b1 : decide (l0_0.length < 1) = false := decide_eq_false (by omega)
   clear c4
   (first | rw [c4b0] | (simp only [i64_w, i32_w]; rw [c4b0]) | skip)
   by_cases c6 : (l0_0.length : Int) > 7
   ·rw [if_pos c6] at H
    have c6b0 : decide (7 < (l0_0.length : Int)) = true := decide_eq_true c6
    have c6b1 : decide (7 < l0_0.length) = true := decide_eq_true (by omega)
    clear c6
    have H' := Aside0.mk H
    clear H
    have hcz7_0 : w3.cell? ⟨gb121001, 0, none⟩ = some (.slice A0_0 l0_0.length c0_0) := (blk_cell BK121001.out 0).trans rfl
    have hcz7_1 : w3.cell? ⟨gb121001, 1, none⟩ = some (.slice A0_1 l0_1.length c0_1) := (blk_cell BK121001.out 1).trans rfl
    have hcz7_2 : w3.cell? ⟨gb121001, 2, none⟩ = some (.int .i64 a0_2) := (blk_cell BK121001.out 2).trans rfl
    have hfz7_0 := blk_frozen BK121001.out 0
    have hfz7_1 := blk_frozen BK121001.out 1
    have hfz7_2 := blk_frozen BK121001.out 2
    go_wp2
    go_meet
    case rel => exact ⟨_, (true), (by first | rfl | (simp; done) | (simp [*]; done)), H', ⟨by first | omega | exact Nat.le_refl _⟩, ⟨by (with_reducible repeat (first | refine blk_drewN ?_ _ | refine blk_drew ?_ | refine blk_alloc ?_ _)); exact BK121001.out⟩, ⟨by repeat (first | (with_reducible first | exact HB.out | apply below_alloc | apply pw_below_drewN | apply below_drew1 | refine below_set ?_ GE121001.out) | exact HB.out)⟩⟩
   ·rw [if_neg c6] at H
    have c6b0 : decide (7 < (l0_0.length : Int)) = false := decide_eq_false c6
    have c6b1 : decide (7 < l0_0.length) = false := decide_eq_false (by omega)
    clear c6
    by_cases c8 : 0 < (l0_0.length : Int)
    ·rw [if_pos c8] at H
     have c8b0 : decide (0 < (l0_0.length : Int)) = true := decide_eq_true c8
     have c8b1 : decide (0 < l0_0.length) = true := decide_eq_true (by omega)
     clear c8
     by_cases c9 : (((rd_T116 l0_0 0).f1).length : Int) > 0
     ·rw [if_pos c9] at H
      have c9b0 : decide (0 < (((rd_T116 l0_0 0).f1).length : Int)) = true := decide_eq_true c9
      have c9b1 : decide (0 < ((rd_T116 l0_0 0).f1).length) = true := decide_eq_true (by omega)
      clear c9
      have H' := Aside0.mk H
      clear H
      have hcz10_0 : w3.cell? ⟨gb121001, 0, none⟩ = some (.slice A0_0 l0_0.length c0_0) := (blk_cell BK121001.out 0).trans rfl
      have hcz10_1 : w3.cell? ⟨gb121001, 1, none⟩ = some (.slice A0_1 l0_1.length c0_1) := (blk_cell BK121001.out 1).trans rfl
      have hcz10_2 : w3.cell? ⟨gb121001, 2, none⟩ = some (.int .i64 a0_2) := (blk_cell BK121001.out 2).trans rfl
      have hfz10_0 := blk_frozen BK121001.out 0
      have hfz10_1 := blk_frozen BK121001.out 1
      have hfz10_2 := blk_frozen BK121001.out 2
      have p121002 : 0 ≤ (0 : Int) := (by omega)
      have q121002 : 0 < (l0_0.length : Int) := of_decide_eq_true (by first | (with_reducible assumption) | assumption)
      obtain ⟨ad121002, A121002_1, c121002_1, e121002, hx121002_0, hx121002_1, hx121002_2, hl121002_1, hi121002_1⟩ := at_T116 HR0_0.out 0 p121002 q121002
      cases e121002
      have qi121002 : (0 < l0_0.length) = True := eq_true (by omega)
      (try rw [show ((0 : Int)).toNat = 0 from rfl] at hx121002_0)
      (try rw [show 0 * 3 = 0 from rfl] at hx121002_0)
      (try rw [Addr.add_zero'] at hx121002_0)
      (try rw [show ((0 : Int)).toNat = 0 from rfl] at hx121002_1)
      (try rw [show 0 * 3 = 0 from rfl] at hx121002_1)
      (try rw [Addr.add_zero'] at hx121002_1)
      (try rw [show ((0 : Int)).toNat = 0 from rfl] at hx121002_2)
      (try rw [show 0 * 3 = 0 from rfl] at hx121002_2)
      (try rw [Addr.add_zero'] at hx121002_2)
      replace hx121002_0 := (HB.out.cell (World.block_lt_of_cell? w _ hx121002_0)).trans hx121002_0
      replace hx121002_1 := (HB.out.cell (World.block_lt_of_cell? w _ hx121002_1)).trans hx121002_1
      replace hx121002_2 := (HB.out.cell (World.block_lt_of_cell? w _ hx121002_2)).trans hx121002_2
      have HR121002_1 := Aside0.mk hi121002_1; have HC121002_1 := Aside0.mk hl121002_1; clear hi121002_1 hl121002_1
      replace p121002 := eq_true p121002
      replace q121002 := eq_true q121002
      go_wp2
      go_meet
      case rel => exact ⟨_, (true), (by first | rfl | (simp; done) | (simp [*]; done)), H', ⟨by first | omega | exact Nat.le_refl _⟩, ⟨by (with_reducible repeat (first | refine blk_drewN ?_ _ | refine blk_drew ?_ | refine blk_alloc ?_ _)); exact BK121001.out⟩, ⟨by repeat (first | (with_reducible first | exact HB.out | apply below_alloc | apply pw_below_drewN | apply below_drew1 | refine below_set ?_ GE121001.out) | exact HB.out)⟩⟩
     ·rw [if_neg c9] at H
      have c9b0 : decide (0 < (((rd_T116 l0_0 0).f1).length : Int)) = false := decide_eq_false c9
      have c9b1 : decide (0 < ((rd_T116 l0_0 0).f1).length) = false := decide_eq_false (by omega)
      clear c9
      have H' := Aside0.mk H
      clear H
      have hcz11_0 : w3.cell? ⟨gb121001, 0, none⟩ = some (.slice A0_0 l0_0.length c0_0) := (blk_cell BK121001.out 0).trans rfl
      have hcz11_1 : w3.cell? ⟨gb121001, 1, none⟩ = some (.slice A0_1 l0_1.length c0_1) := (blk_cell BK121001.out 1).trans rfl
      have hcz11_2 : w3.cell? ⟨gb121001, 2, none⟩ = some (.int .i64 a0_2) := (blk_cell BK121001.out 2).trans rfl
      have hfz11_0 := blk_frozen BK121001.out 0
      have hfz11_1 := blk_frozen BK121001.out 1
      have hfz11_2 := blk_frozen BK121001.out 2
      have p121002 : 0 ≤ (0 : Int) := (by omega)
      have q121002 : 0 < (l0_0.length : Int) := of_decide_eq_true (by first | (with_reducible assumption) | assumption)
      obtain ⟨ad121002, A121002_1, c121002_1, e121002, hx121002_0, hx121002_1, hx121002_2, hl121002_1, hi121002_1⟩ := at_T116 HR0_0.out 0 p121002 q121002
      cases e121002
      have qi121002 : (0 < l0_0.length) = True := eq_true (by omega)
      (try rw [show ((0 : Int)).toNat = 0 from rfl] at hx121002_0)
      (try rw [show 0 * 3 = 0 from rfl] at hx121002_0)
      (try rw [Addr.add_zero'] at hx121002_0)
      (try rw [show ((0 : Int)).toNat = 0 from rfl] at hx121002_1)
      (try rw [show 0 * 3 = 0 from rfl] at hx121002_1)
      (try rw [Addr.add_zero'] at hx121002_1)
      (try rw [show ((0 : Int)).toNat = 0 from rfl] at hx121002_2)
      (try rw [show 0 * 3 = 0 from rfl] at hx121002_2)
      (try rw [Addr.add_zero'] at hx121002_2)
      replace hx121002_0 := (HB.out.cell (World.block_lt_of_cell? w _ hx121002_0)).trans hx121002_0
      replace hx121002_1 := (HB.out.cell (World.block_lt_of_cell? w _ hx121002_1)).trans hx121002_1
      replace hx121002_2 := (HB.out.cell (World.block_lt_of_cell? w _ hx121002_2)).trans hx121002_2
      have HR121002_1 := Aside0.mk hi121002_1; have HC121002_1 := Aside0.mk hl121002_1; clear hi121002_1 hl121002_1
      replace p121002 := eq_true p121002
      replace q121002 := eq_true q121002
      have p121003 : 0 ≤ (0 : Int) := (by omega)
      have q121003 : 0 < (l0_0.length : Int) := of_decide_eq_true (by first | (with_reducible assumption) | assumption)
      obtain ⟨ad121003, A121003_1, c121003_1, e121003, hx121003_0, hx121003_1, hx121003_2, hl121003_1, hi121003_1⟩ := at_T116 HR0_0.out 0 p121003 q121003
      obtain rfl : ad121002 = ad121003 := (by injection e121003)
      have qi121003 : (0 < l0_0.length) = True := eq_true (by omega)
      (try rw [show ((0 : Int)).toNat = 0 from rfl] at hx121003_0)
      (try rw [show 0 * 3 = 0 from rfl] at hx121003_0)
      (try rw [Addr.add_zero'] at hx121003_0)
      (try rw [show ((0 : Int)).toNat = 0 from rfl] at hx121003_1)
      (try rw [show 0 * 3 = 0 from rfl] at hx121003_1)
      (try rw [Addr.add_zero'] at hx121003_1)
      (try rw [show ((0 : Int)).toNat = 0 from rfl] at hx121003_2)
      (try rw [show 0 * 3 = 0 from rfl] at hx121003_2)
      (try rw [Addr.add_zero'] at hx121003_2)
      replace hx121003_0 := (HB.out.cell (World.block_lt_of_cell? w _ hx121003_0)).trans hx121003_0
      replace hx121003_1 := (HB.out.cell (World.block_lt_of_cell? w _ hx121003_1)).trans hx121003_1
      replace hx121003_2 := (HB.out.cell (World.block_lt_of_cell? w _ hx121003_2)).trans hx121003_2
      have HR121003_1 := Aside0.mk hi121003_1; have HC121003_1 := Aside0.mk hl121003_1; clear hi121003_1 hl121003_1
      replace p121003 := eq_true p121003
      replace q121003 := eq_true q121003
      have ea_ := Option.some.inj (hx121002_1.symm.trans hx121003_1)
      injection ea_ with ea_ en_ ec_
      subst ea_; subst ec_; clear en_
      go_wp2
      go_meet
      case rel => exact ⟨_, ((((rd_T116 l0_0 0).f2) != 0)), (by first | rfl | (simp; done) | (simp [*]; done)), H', ⟨by first | omega | exact Nat.le_refl _⟩, ⟨by (with_reducible repeat (first | refine blk_drewN ?_ _ | refine blk_drew ?_ | refine blk_alloc ?_ _)); exact BK121001.out⟩, ⟨by repeat (first | (with_reducible first | exact HB.out | apply below_alloc | apply pw_below_drewN | apply below_drew1 | refine below_set ?_ GE121001.out) | exact HB.out)⟩⟩
    ·rw [if_neg c8] at H
     exact absurd H (by simp)
 case rest =>
  clear HC2
  try clear c1
  try clear p1
  try clear q1
  try clear hx1
  try clear qi1
  try clear p2
  try clear c4
  try clear c4b0
  try clear c4b1
  try clear c6
  try clear c6b0
  try clear c6b1
  try clear c8
  try clear c8b0
  try clear c8b1
  try clear c9
  try clear c9b0
  try clear c9b1
  try clear hcz10_0
  try clear hcz10_1
  try clear hcz10_2
  try clear hcz11_0
  try clear hcz11_1
  try clear hcz11_2
  try clear hcz5_0
  try clear hcz5_1
  try clear hcz5_2
  try clear hcz7_0
  try clear hcz7_1
  try clear hcz7_2
  try clear hfz10_0
  try clear hfz10_1
  try clear hfz10_2
  try clear hfz11_0
  try clear hfz11_1
  try clear hfz11_2
  try clear hfz5_0
  try clear hfz5_1
  try clear hfz5_2
  try clear hfz7_0
  try clear hfz7_1
  try clear hfz7_2
  try clear hx121002_0
  try clear hx121002_1
  try clear hx121002_2
  try clear hx121003_0
  try clear hx121003_1
  try clear hx121003_2
  try clear p121002
  try clear p121003
  try clear q121002
  try clear q121003
  obtain ⟨kq, x33_1, rfl, HA, HJ1, BK121001, HB⟩ := hcut
  cases kq with
  | zero => exact absurd HA.out (by simp [impl_areNodes.j0])
  | succ kj1 =>
   have H := HA.out
   clear HA
   simp only [impl_areNodes.j0] at H
   by_cases c12 : x33_1 = true
   ·subst c12
    rw [if_pos rfl] at H
    obtain rfl := Option.some.inj H
    go_wp2
    go_ret
    exact ⟨by first | rfl | (simp [errW_none, errW_some] <;> rfl) | (simp [*, errW_none, errW_some] <;> rfl), by repeat (first | (with_reducible first | exact HB.out | apply below_alloc | apply pw_below_drewN | apply below_drew1 | refine below_set ?_ GE121001.out) | exact HB.out)⟩
   ·replace c12 := Bool.eq_false_iff.mpr c12
    subst c12
    have H1 : (impl_areNodes.l0 kj1 l0_0 (l0_0.length : Int) 0 l0_0 l0_1 a0_2) = some r := by rw [if_neg (show ¬ (false = true) by decide)] at H; exact H
    clear H
    have H := H1
    clear H1
    have H' := Aside0.mk H
    clear H
    have hcz13_0 : wc.cell? ⟨gb121001, 0, none⟩ = some (.slice A0_0 l0_0.length c0_0) := (blk_cell BK121001.out 0).trans rfl
    have hcz13_1 : wc.cell? ⟨gb121001, 1, none⟩ = some (.slice A0_1 l0_1.length c0_1) := (blk_cell BK121001.out 1).trans rfl
    have hcz13_2 : wc.cell? ⟨gb121001, 2, none⟩ = some (.int .i64 a0_2) := (blk_cell BK121001.out 2).trans rfl
    have hfz13_0 := blk_frozen BK121001.out 0
    have hfz13_1 := blk_frozen BK121001.out 1
    have hfz13_2 := blk_frozen BK121001.out 2
    go_wp2
    go_loopg [37] kj1 (fun kq v37 w' => ∃ (x37_2 : Int), v37 = .int .i64 x37_2 ∧ Aside0 (impl_areNodes.l0 kq l0_0 (l0_0.length : Int) x37_2 l0_0 l0_1 a0_2 = some r) ∧ Aside0 (kq ≤ kj1) ∧ Aside0 (w'.heap[gb121001]? = some (.cells #[(.slice A0_0 l0_0.length c0_0), (.slice A0_1 l0_1.length c0_1), .int .i64 a0_2] 35 (0, 0))) ∧ Aside0 (Below w.heap.size w w'))
    case atStart => exact ⟨(0), (by first | rfl | (simp; done) | (simp [*]; done)), H', ⟨Nat.le_refl _⟩, ⟨by (with_reducible repeat (first | refine blk_drewN ?_ _ | refine blk_drew ?_ | refine blk_alloc ?_ _)); exact BK121001.out⟩, ⟨by repeat (first | (with_reducible first | exact HB.out | apply below_alloc | apply pw_below_drewN | apply below_drew1 | refine below_set ?_ GE121001.out) | exact HB.out)⟩⟩
    case round =>
     clear H'
     try clear c1
     try clear p1
     try clear q1
     try clear hx1
     try clear qi1
     try clear p2
     try clear c4
     try clear c4b0
     try clear c4b1
     try clear c6
     try clear c6b0
     try clear c6b1
     try clear c8
     try clear c8b0
     try clear c8b1
     try clear c9
     try clear c9b0
     try clear c9b1
     try clear c12
     try clear p12
     try clear q12
     try clear hx12
     try clear qi12
     try clear hcz10_0
     try clear hcz10_1
     try clear hcz10_2
     try clear hcz11_0
     try clear hcz11_1
     try clear hcz11_2
     try clear hcz13_0
     try clear hcz13_1
     try clear hcz13_2
     try clear hcz5_0
     try clear hcz5_1
     try clear hcz5_2
     try clear hcz7_0
     try clear hcz7_1
     try clear hcz7_2
     try clear hfz10_0
     try clear hfz10_1
     try clear hfz10_2
     try clear hfz11_0
     try clear hfz11_1
     try clear hfz11_2
     try clear hfz13_0
     try clear hfz13_1
     try clear hfz13_2
     try clear hfz5_0
     try clear hfz5_1
     try clear hfz5_2
     try clear hfz7_0
     try clear hfz7_1
     try clear hfz7_2
     try clear hx121002_0
     try clear hx121002_1
     try clear hx121002_2
     try clear hx121003_0
     try clear hx121003_1
     try clear hx121003_2
     try clear p1
     try clear p121002
     try clear p121003
     try clear p2
     try clear q1
     try clear q121002
     try clear q121003
     obtain ⟨x37_2, rfl, HA, HK2, BK121001, HB⟩ := hrel
     cases gk with
     | zero => exact absurd HA.out (by simp [impl_areNodes.l0])
     | succ k2 =>
      have H := HA.out
      clear HA
      simp only [impl_areNodes.l0] at H
      by_cases c14 : x37_2 < (l0_0.length : Int)
      ·rw [if_pos c14] at H
       have c14b0 : decide (x37_2 < (l0_0.length : Int)) = true := decide_eq_true c14
       clear c14
       by_cases c15 : 0 ≤ x37_2
       ·rw [if_pos c15] at H
        have c15b0 : decide (0 ≤ x37_2) = true := decide_eq_true c15
        clear c15
        by_cases c16 : x37_2 < (l0_0.length : Int)
        ·rw [if_pos c16] at H
         have c16b0 : decide (x37_2 < (l0_0.length : Int)) = true := decide_eq_true c16
         clear c16
         replace H := Option.bind_eq_some_iff.mp H
         obtain ⟨t121006, A170, H⟩ := H; have A17 := Aside0.mk A170; clear A170
         by_cases c18 : t121006 = true
         ·subst c18
          rw [if_pos rfl] at H
          have c19b0 := eq_true (of_decide_eq_true (by first | (with_reducible assumption) | assumption) : 0 ≤ x37_2)
          by_cases c20 : x37_2 ≤ (l0_0.length : Int)
          ·rw [if_pos c20] at H
           have c20b0 := eq_true c20
           have c20b1 : decide (x37_2 ≤ (l0_0.length : Int)) = true := decide_eq_true c20
           clear c20
           obtain ⟨y121007, hy121007⟩ : ∃ y_ : List (S116), y_ = (l0_0.take (x37_2 : Int).toNat) := ⟨_, rfl⟩
           replace H : (impl_areNodes.l1 k2 l0_0 (l0_0.length : Int) x37_2 y121007 (y121007.length : Int) 0 l0_0 l0_1 a0_2 ((rd_T116 l0_0 x37_2).f0) ((rd_T116 l0_0 x37_2).f1) ((rd_T116 l0_0 x37_2).f2)) = some r := by first | (rw [hy121007]; with_reducible exact H) | (have H2_ := (Option.bind_some _ _).symm.trans H; rw [hy121007]; with_reducible exact H2_) | (have H2_ := (Option.bind_some _ _).symm.trans H; with_reducible exact H2_) | with_reducible exact H | (rw [hy121007]; exact H) | exact H
           have Ny121007 := Aside0.mk hy121007; clear hy121007
           have H' := Aside0.mk H
           clear H
           have p121004 : 0 ≤ (x37_2 : Int) := of_decide_eq_true (by first | (with_reducible assumption) | assumption)
           have q121004 : x37_2 < (l0_0.length : Int) := of_decide_eq_true (by first | (with_reducible assumption) | assumption)
           obtain ⟨ad121004, A121004_1, c121004_1, e121004, hx121004_0, hx121004_1, hx121004_2, hl121004_1, hi121004_1⟩ := at_T116 HR0_0.out x37_2 p121004 q121004
           cases e121004
           replace hx121004_0 := (HB.out.cell (World.block_lt_of_cell? w _ hx121004_0)).trans hx121004_0
           replace hx121004_1 := (HB.out.cell (World.block_lt_of_cell? w _ hx121004_1)).trans hx121004_1
           replace hx121004_2 := (HB.out.cell (World.block_lt_of_cell? w _ hx121004_2)).trans hx121004_2
           have HR121004_1 := Aside0.mk hi121004_1; have HC121004_1 := Aside0.mk hl121004_1; clear hi121004_1 hl121004_1
           replace p121004 := eq_true p121004
           replace q121004 := eq_true q121004
           go_wp2_with (first | ((with_reducible refine gate_dst (N := 4) rfl ?_); refine box_event ?hg (N := 4) ?hd (cs := #[.string (⟨#[]⟩ : ByteArray), .slice none 0 0, .int .i64 0]) (t := 116) ?hr ?_; (case hd => rfl); (case hg => rfl); (case hr => first | (go_simp; done) | (go_simp; rfl)); intro gb121005 hg w21 hbox hb; have n0_ := Aside0.mk (blk_below (g := gb121001) (o := .cells #[.slice (some ad121004) l0_0.length c0_0, .slice A0_1 l0_1.length c0_1, .int .i64 a0_2] 35 (0, 0)) (by (with_reducible repeat (first | refine blk_drewN ?_ _ | refine blk_drew ?_ | refine blk_alloc ?_ _)); exact BK121001.out) hb); have n1_ := Aside0.mk (below_step (by repeat (first | (with_reducible first | exact HB.out | apply below_alloc | apply pw_below_drewN | apply below_drew1 | refine below_set ?_ GE121001.out) | exact HB.out)) hb); have n2_ := Aside0.mk (hbox); have n3_ := Aside0.mk ((by rw [hg]; exact (below_size (by repeat (first | (with_reducible first | exact HB.out | apply below_alloc | apply pw_below_drewN | apply below_drew1 | refine below_set ?_ GE121001.out) | exact HB.out))) : w.heap.size ≤ gb121005)); have n4_ := Aside0.mk ((by rw [hg]; exact (below_size (by repeat (first | (with_reducible first | exact HB.out | apply below_alloc | apply pw_below_drewN | apply below_drew1 | refine below_set ?_ GE121001.out) | exact HB.out))) : w.heap.size ≤ gb121005)); have n5_ := Aside0.mk ((by rw [hg]; exact Nat.ne_of_lt (blk_lt (g := gb121001) (o := .cells #[.slice (some ad121004) l0_0.length c0_0, .slice A0_1 l0_1.length c0_1, .int .i64 a0_2] 35 (0, 0)) (by (with_reducible repeat (first | refine blk_drewN ?_ _ | refine blk_drew ?_ | refine blk_alloc ?_ _)); exact BK121001.out)) : gb121001 ≠ gb121005)); have n6_ := Aside0.mk ((by rw [hg]; exact Nat.ne_of_gt (blk_lt (g := gb121001) (o := .cells #[.slice (some ad121004) l0_0.length c0_0, .slice A0_1 l0_1.length c0_1, .int .i64 a0_2] 35 (0, 0)) (by (with_reducible repeat (first | refine blk_drewN ?_ _ | refine blk_drew ?_ | refine blk_alloc ?_ _)); exact BK121001.out)) : gb121005 ≠ gb121001)); clear BK121001; clear HB; have BK121001 := n0_; have HB := n1_; have BK121005 := n2_; have GW121005 := n3_; have GE121005 := n4_; have NB121001_121005 := n5_; have NB121005_121001 := n6_; clear n0_ n1_ n2_ n3_ n4_ n5_ n6_; clear hb hbox hg; have hnb22 := NB121005_121001.out; have hnc22 := NB121001_121005.out; have hcz23_0 : w21.cell? ⟨gb121005, 0, none⟩ = some (.string (⟨#[]⟩ : ByteArray)) := (blk_cell BK121005.out 0).trans rfl; have hcz23_1 : w21.cell? ⟨gb121005, 1, none⟩ = some (.slice none 0 0) := (blk_cell BK121005.out 1).trans rfl; have hcz23_2 : w21.cell? ⟨gb121005, 2, none⟩ = some (.int .i64 0) := (blk_cell BK121005.out 2).trans rfl; have hfz23_0 := blk_frozen BK121005.out 0; have hfz23_1 := blk_frozen BK121005.out 1; have hfz23_2 := blk_frozen BK121005.out 2) | ((with_reducible refine gate_callee (f := 157) rfl ?_); refine goesL_ (some 43) rfl rfl Try.func157 (by kernel_rfl) rfl #[.agg #[.string ((rd_T116 l0_0 x37_2).f0), .slice A121004_1 ((rd_T116 l0_0 x37_2).f1).length c121004_1, .int .i64 ((rd_T116 l0_0 x37_2).f2)]] rfl (by (try simp only [List.map_toArray, List.map_cons, List.map_nil]); first | done | rfl | (simp only [List.length_drop, List.length_take]; rfl)) ?_; (with_reducible refine (impl_NodeOk.calls k2 ((rd_T116 l0_0 x37_2).f0) _ _ ((rd_T116 l0_0 x37_2).f1) ((rd_T116 l0_0 x37_2).f2) true _ ?side1 ?side2 A17.out).mono ?_); (case side1 => exact Kd.C_below HR121004_1.out (by repeat (first | (with_reducible first | exact HB.out | apply below_alloc | apply pw_below_drewN | apply below_drew1 | refine below_set ?_ GE121001.out | refine below_set ?_ GE121005.out) | exact HB.out))); (case side2 => exact HC121004_1.out); rintro e w24 ⟨rfl, hb⟩; refine ⟨_, rfl, ?_⟩; have n0_ := Aside0.mk (blk_below (g := gb121001) (o := .cells #[.slice (some ad121004) l0_0.length c0_0, .slice A0_1 l0_1.length c0_1, .int .i64 a0_2] 35 (0, 0)) (by (with_reducible repeat (first | refine blk_drewN ?_ _ | refine blk_drew ?_ | refine blk_alloc ?_ _)); refine blk_far ?_ NB121001_121005.out _; (with_reducible repeat (first | refine blk_drewN ?_ _ | refine blk_drew ?_ | refine blk_alloc ?_ _)); refine blk_far ?_ NB121001_121005.out _; (with_reducible repeat (first | refine blk_drewN ?_ _ | refine blk_drew ?_ | refine blk_alloc ?_ _)); refine blk_far ?_ NB121001_121005.out _; (with_reducible repeat (first | refine blk_drewN ?_ _ | refine blk_drew ?_ | refine blk_alloc ?_ _)); exact BK121001.out) hb); have n1_ := Aside0.mk (blk_below (g := gb121005) (o := .cells #[.string ((rd_T116 l0_0 x37_2).f0), .slice A121004_1 ((rd_T116 l0_0 x37_2).f1).length c121004_1, .int .i64 ((rd_T116 l0_0 x37_2).f2)] 116 (0, 0)) (by (with_reducible repeat (first | refine blk_drewN ?_ _ | refine blk_drew ?_ | refine blk_alloc ?_ _)); refine blk_put (cs := #[.string ((rd_T116 l0_0 x37_2).f0), .slice A121004_1 ((rd_T116 l0_0 x37_2).f1).length c121004_1, .int .i64 0]) ?_ 2 _ rfl; (with_reducible repeat (first | refine blk_drewN ?_ _ | refine blk_drew ?_ | refine blk_alloc ?_ _)); refine blk_put (cs := #[.string ((rd_T116 l0_0 x37_2).f0), .slice none 0 0, .int .i64 0]) ?_ 1 _ rfl; (with_reducible repeat (first | refine blk_drewN ?_ _ | refine blk_drew ?_ | refine blk_alloc ?_ _)); refine blk_put (cs := #[.string (⟨#[]⟩ : ByteArray), .slice none 0 0, .int .i64 0]) ?_ 0 _ rfl; (with_reducible repeat (first | refine blk_drewN ?_ _ | refine blk_drew ?_ | refine blk_alloc ?_ _)); exact BK121005.out) hb); have n2_ := Aside0.mk (below_step (by repeat (first | (with_reducible first | exact HB.out | apply below_alloc | apply pw_below_drewN | apply below_drew1 | refine below_set ?_ GE121001.out | refine below_set ?_ GE121005.out) | exact HB.out)) hb); clear BK121001; clear BK121005; clear HB; have BK121001 := n0_; have BK121005 := n1_; have HB := n2_; clear n0_ n1_ n2_; (try clear hb); (try clear hb2); (try clear hk); (try clear hi); have hcz25_0 : w24.cell? ⟨gb121001, 0, none⟩ = some (.slice (some ad121004) l0_0.length c0_0) := (blk_cell BK121001.out 0).trans rfl; have hcz25_1 : w24.cell? ⟨gb121001, 1, none⟩ = some (.slice A0_1 l0_1.length c0_1) := (blk_cell BK121001.out 1).trans rfl; have hcz25_2 : w24.cell? ⟨gb121001, 2, none⟩ = some (.int .i64 a0_2) := (blk_cell BK121001.out 2).trans rfl; have hfz25_0 := blk_frozen BK121001.out 0; have hfz25_1 := blk_frozen BK121001.out 1; have hfz25_2 := blk_frozen BK121001.out 2; have q26 : (x37_2 : Int) ≤ ((l0_0.length : Int) : Int) := of_decide_eq_true (by first | (with_reducible assumption) | assumption); obtain ⟨i026, hi026, _, hsz26, _⟩ := info_parts info116; have hroom26 : l0_0.length ≤ c0_0 := HC0_0.out; have hC26 : Kd.C k116 _ (some ad121004) l0_0.length l0_0 := HR0_0.out; have hcut26 := cut_to (P := Try.prog) 32 116 .i64 Try.underlying32 hi026 (some ad121004) l0_0.length c0_0 x37_2 (of_decide_eq_true (by first | (with_reducible assumption) | assumption)) q26 hroom26; have hr26 := Kd.C_take (m := (x37_2 : Int).toNat) hC26 (by omega); have hy26 : y121007.length = (x37_2 : Int).toNat := (by rw [Ny121007.out, List.length_take]; omega); rw [← Ny121007.out] at hr26; rw [← hy26] at hcut26; have HR121010 := Aside0.mk hr26; have HC121010 := Aside0.mk (show y121007.length ≤ c0_0 from by omega); clear hr26 hC26 hroom26 hi026 hsz26; have KY26 := Aside0.mk hy26; clear hy26; replace q26 := eq_true q26))
           go_loopg [50] k2 (fun kq v50 w' => ∃ (x50_3 : Int), v50 = .int .i64 x50_3 ∧ Aside0 (impl_areNodes.l1 kq l0_0 (l0_0.length : Int) x37_2 y121007 (y121007.length : Int) x50_3 l0_0 l0_1 a0_2 ((rd_T116 l0_0 x37_2).f0) ((rd_T116 l0_0 x37_2).f1) ((rd_T116 l0_0 x37_2).f2) = some r) ∧ Aside0 (kq ≤ k2) ∧ Aside0 (w'.heap[gb121001]? = some (.cells #[(.slice (some ad121004) l0_0.length c0_0), (.slice A0_1 l0_1.length c0_1), .int .i64 a0_2] 35 (0, 0))) ∧ Aside0 (w'.heap[gb121005]? = some (.cells #[.string ((rd_T116 l0_0 x37_2).f0), (.slice A121004_1 ((rd_T116 l0_0 x37_2).f1).length c121004_1), .int .i64 ((rd_T116 l0_0 x37_2).f2)] 116 (0, 0))) ∧ Aside0 (Below w.heap.size w w'))
           case atStart => exact ⟨(0), (by first | rfl | (simp; done) | (simp [*]; done)), H', ⟨Nat.le_refl _⟩, ⟨by (with_reducible repeat (first | refine blk_drewN ?_ _ | refine blk_drew ?_ | refine blk_alloc ?_ _)); exact BK121001.out⟩, ⟨by (with_reducible repeat (first | refine blk_drewN ?_ _ | refine blk_drew ?_ | refine blk_alloc ?_ _)); exact BK121005.out⟩, ⟨by repeat (first | (with_reducible first | exact HB.out | apply below_alloc | apply pw_below_drewN | apply below_drew1 | refine below_set ?_ GE121001.out | refine below_set ?_ GE121005.out) | exact HB.out)⟩⟩
           case round =>
            clear H'
            try clear c1
            try clear p1
            try clear q1
            try clear hx1
            try clear qi1
            try clear c2
            try clear p2
            try clear q2
            try clear c4
            try clear c4b0
            try clear c4b1
            try clear c6
            try clear c6b0
            try clear c6b1
            try clear c8
            try clear c8b0
            try clear c8b1
            try clear c9
            try clear c9b0
            try clear c9b1
            try clear c12
            try clear p12
            try clear q12
            try clear hx12
            try clear qi12
            try clear c14
            try clear c14b0
            try clear c15
            try clear c15b0
            try clear c16
            try clear c16b0
            try clear c18
            try clear c19
            try clear c19b0
            try clear c20
            try clear c20b0
            try clear c20b1
            try clear c22
            try clear q26
            try clear hcz10_0
            try clear hcz10_1
            try clear hcz10_2
            try clear hcz11_0
            try clear hcz11_1
            try clear hcz11_2
            try clear hcz13_0
            try clear hcz13_1
            try clear hcz13_2
            try clear hcz23_0
            try clear hcz23_1
            try clear hcz23_2
            try clear hcz25_0
            try clear hcz25_1
            try clear hcz25_2
            try clear hcz5_0
            try clear hcz5_1
            try clear hcz5_2
            try clear hcz7_0
            try clear hcz7_1
            try clear hcz7_2
            try clear hfz10_0
            try clear hfz10_1
            try clear hfz10_2
            try clear hfz11_0
            try clear hfz11_1
            try clear hfz11_2
            try clear hfz13_0
            try clear hfz13_1
            try clear hfz13_2
            try clear hfz23_0
            try clear hfz23_1
            try clear hfz23_2
            try clear hfz25_0
            try clear hfz25_1
            try clear hfz25_2
            try clear hfz5_0
            try clear hfz5_1
            try clear hfz5_2
            try clear hfz7_0
            try clear hfz7_1
            try clear hfz7_2
            try clear hx121002_0
            try clear hx121002_1
            try clear hx121002_2
            try clear hx121003_0
            try clear hx121003_1
            try clear hx121003_2
            try clear hx121004_0
            try clear hx121004_1
            try clear hx121004_2
            try clear p1
            try clear p12
            try clear p121002
            try clear p121003
            try clear p121004
            try clear p2
            try clear q1
            try clear q12
            try clear q121002
            try clear q121003
            try clear q121004
            try clear q26
            obtain ⟨x50_3, rfl, HA, HK3, BK121001, BK121005, HB⟩ := hrel
            cases gk with
            | zero => exact absurd HA.out (by simp [impl_areNodes.l1])
            | succ k3 =>
             have H := HA.out
             clear HA
             simp only [impl_areNodes.l1] at H
             by_cases c27 : x50_3 < (y121007.length : Int)
             ·rw [if_pos c27] at H
              have c27b0 : decide (x50_3 < (y121007.length : Int)) = true := decide_eq_true c27
              clear c27
              by_cases c28 : 0 ≤ x50_3
              ·rw [if_pos c28] at H
               have c28b0 : decide (0 ≤ x50_3) = true := decide_eq_true c28
               clear c28
               by_cases c29 : x50_3 < (y121007.length : Int)
               ·rw [if_pos c29] at H
                have c29b0 : decide (x50_3 < (y121007.length : Int)) = true := decide_eq_true c29
                clear c29
                by_cases c30 : ((rd_T116 y121007 x50_3).f0).toList = ((rd_T116 l0_0 x37_2).f0).toList
                ·rw [if_pos c30] at H
                 have c30b0 : (((rd_T116 y121007 x50_3).f0).toList == ((rd_T116 l0_0 x37_2).f0).toList) = true := beq_iff_eq.mpr c30
                 have c30b1 : (((rd_T116 y121007 x50_3).f0).toList != ((rd_T116 l0_0 x37_2).f0).toList) = false := bne_eq_false_iff_eq.mpr c30
                 clear c30
                 obtain rfl := Option.some.inj H
                 have p121011 : 0 ≤ (x50_3 : Int) := of_decide_eq_true (by first | (with_reducible assumption) | assumption)
                 have q121011 : x50_3 < (y121007.length : Int) := of_decide_eq_true (by first | (with_reducible assumption) | assumption)
                 obtain ⟨ad121011, A121011_1, c121011_1, e121011, hx121011_0, hx121011_1, hx121011_2, hl121011_1, hi121011_1⟩ := at_T116 HR121010.out x50_3 p121011 q121011
                 obtain rfl : ad121004 = ad121011 := (by injection e121011)
                 replace hx121011_0 := (HB.out.cell (World.block_lt_of_cell? w _ hx121011_0)).trans hx121011_0
                 replace hx121011_1 := (HB.out.cell (World.block_lt_of_cell? w _ hx121011_1)).trans hx121011_1
                 replace hx121011_2 := (HB.out.cell (World.block_lt_of_cell? w _ hx121011_2)).trans hx121011_2
                 have HR121011_1 := Aside0.mk hi121011_1; have HC121011_1 := Aside0.mk hl121011_1; clear hi121011_1 hl121011_1
                 replace p121011 := eq_true p121011
                 replace q121011 := eq_true q121011
                 go_wp2_with (first | ((with_reducible refine gate_dst (N := 6) rfl ?_); refine box_event ?hg (N := 6) ?hd (cs := #[.string (⟨#[]⟩ : ByteArray), .slice none 0 0, .int .i64 0]) (t := 116) ?hr ?_; (case hd => rfl); (case hg => rfl); (case hr => first | (go_simp; done) | (go_simp; rfl)); intro gb121012 hg w31 hbox hb; have n0_ := Aside0.mk (blk_below (g := gb121001) (o := .cells #[.slice (some ad121004) l0_0.length c0_0, .slice A0_1 l0_1.length c0_1, .int .i64 a0_2] 35 (0, 0)) (by (with_reducible repeat (first | refine blk_drewN ?_ _ | refine blk_drew ?_ | refine blk_alloc ?_ _)); exact BK121001.out) hb); have n1_ := Aside0.mk (blk_below (g := gb121005) (o := .cells #[.string ((rd_T116 l0_0 x37_2).f0), .slice A121004_1 ((rd_T116 l0_0 x37_2).f1).length c121004_1, .int .i64 ((rd_T116 l0_0 x37_2).f2)] 116 (0, 0)) (by (with_reducible repeat (first | refine blk_drewN ?_ _ | refine blk_drew ?_ | refine blk_alloc ?_ _)); exact BK121005.out) hb); have n2_ := Aside0.mk (below_step (by repeat (first | (with_reducible first | exact HB.out | apply below_alloc | apply pw_below_drewN | apply below_drew1 | refine below_set ?_ GE121001.out | refine below_set ?_ GE121005.out) | exact HB.out)) hb); have n3_ := Aside0.mk (hbox); have n4_ := Aside0.mk ((by rw [hg]; exact (below_size (by repeat (first | (with_reducible first | exact HB.out | apply below_alloc | apply pw_below_drewN | apply below_drew1 | refine below_set ?_ GE121001.out | refine below_set ?_ GE121005.out) | exact HB.out))) : w.heap.size ≤ gb121012)); have n5_ := Aside0.mk ((by rw [hg]; exact (below_size (by repeat (first | (with_reducible first | exact HB.out | apply below_alloc | apply pw_below_drewN | apply below_drew1 | refine below_set ?_ GE121001.out | refine below_set ?_ GE121005.out) | exact HB.out))) : w.heap.size ≤ gb121012)); have n6_ := Aside0.mk ((by rw [hg]; exact Nat.ne_of_lt (blk_lt (g := gb121001) (o := .cells #[.slice (some ad121004) l0_0.length c0_0, .slice A0_1 l0_1.length c0_1, .int .i64 a0_2] 35 (0, 0)) (by (with_reducible repeat (first | refine blk_drewN ?_ _ | refine blk_drew ?_ | refine blk_alloc ?_ _)); exact BK121001.out)) : gb121001 ≠ gb121012)); have n7_ := Aside0.mk ((by rw [hg]; exact Nat.ne_of_gt (blk_lt (g := gb121001) (o := .cells #[.slice (some ad121004) l0_0.length c0_0, .slice A0_1 l0_1.length c0_1, .int .i64 a0_2] 35 (0, 0)) (by (with_reducible repeat (first | refine blk_drewN ?_ _ | refine blk_drew ?_ | refine blk_alloc ?_ _)); exact BK121001.out)) : gb121012 ≠ gb121001)); have n8_ := Aside0.mk ((by rw [hg]; exact Nat.ne_of_lt (blk_lt (g := gb121005) (o := .cells #[.string ((rd_T116 l0_0 x37_2).f0), .slice A121004_1 ((rd_T116 l0_0 x37_2).f1).length c121004_1, .int .i64 ((rd_T116 l0_0 x37_2).f2)] 116 (0, 0)) (by (with_reducible repeat (first | refine blk_drewN ?_ _ | refine blk_drew ?_ | refine blk_alloc ?_ _)); exact BK121005.out)) : gb121005 ≠ gb121012)); have n9_ := Aside0.mk ((by rw [hg]; exact Nat.ne_of_gt (blk_lt (g := gb121005) (o := .cells #[.string ((rd_T116 l0_0 x37_2).f0), .slice A121004_1 ((rd_T116 l0_0 x37_2).f1).length c121004_1, .int .i64 ((rd_T116 l0_0 x37_2).f2)] 116 (0, 0)) (by (with_reducible repeat (first | refine blk_drewN ?_ _ | refine blk_drew ?_ | refine blk_alloc ?_ _)); exact BK121005.out)) : gb121012 ≠ gb121005)); clear BK121001; clear BK121005; clear HB; have BK121001 := n0_; have BK121005 := n1_; have HB := n2_; have BK121012 := n3_; have GW121012 := n4_; have GE121012 := n5_; have NB121001_121012 := n6_; have NB121012_121001 := n7_; have NB121005_121012 := n8_; have NB121012_121005 := n9_; clear n0_ n1_ n2_ n3_ n4_ n5_ n6_ n7_ n8_ n9_; clear hb hbox hg; have hnb32 := NB121012_121001.out; have hnc32 := NB121001_121012.out; have hnb33 := NB121012_121005.out; have hnc33 := NB121005_121012.out; have hcz34_0 : w31.cell? ⟨gb121012, 0, none⟩ = some (.string (⟨#[]⟩ : ByteArray)) := (blk_cell BK121012.out 0).trans rfl; have hcz34_1 : w31.cell? ⟨gb121012, 1, none⟩ = some (.slice none 0 0) := (blk_cell BK121012.out 1).trans rfl; have hcz34_2 : w31.cell? ⟨gb121012, 2, none⟩ = some (.int .i64 0) := (blk_cell BK121012.out 2).trans rfl; have hfz34_0 := blk_frozen BK121012.out 0; have hfz34_1 := blk_frozen BK121012.out 1; have hfz34_2 := blk_frozen BK121012.out 2; have hnb35 := NB121005_121001.out; have hnc35 := NB121001_121005.out; have hcz36_0 : w31.cell? ⟨gb121005, 0, none⟩ = some (.string ((rd_T116 l0_0 x37_2).f0)) := (blk_cell BK121005.out 0).trans rfl; have hcz36_1 : w31.cell? ⟨gb121005, 1, none⟩ = some (.slice A121004_1 ((rd_T116 l0_0 x37_2).f1).length c121004_1) := (blk_cell BK121005.out 1).trans rfl; have hcz36_2 : w31.cell? ⟨gb121005, 2, none⟩ = some (.int .i64 ((rd_T116 l0_0 x37_2).f2)) := (blk_cell BK121005.out 2).trans rfl; have hfz36_0 := blk_frozen BK121005.out 0; have hfz36_1 := blk_frozen BK121005.out 1; have hfz36_2 := blk_frozen BK121005.out 2))
                 go_ret
                 exact ⟨by first | rfl | (simp [errW_none, errW_some] <;> rfl) | (simp [*, errW_none, errW_some] <;> rfl), by repeat (first | (with_reducible first | exact HB.out | apply below_alloc | apply pw_below_drewN | apply below_drew1 | refine below_set ?_ GE121001.out | refine below_set ?_ GE121005.out | refine below_set ?_ GE121012.out) | exact HB.out)⟩
                ·rw [if_neg c30] at H
                 have c30b0 : (((rd_T116 y121007 x50_3).f0).toList == ((rd_T116 l0_0 x37_2).f0).toList) = false := beq_eq_false_iff_ne.mpr c30
                 have c30b1 : (((rd_T116 y121007 x50_3).f0).toList != ((rd_T116 l0_0 x37_2).f0).toList) = true := bne_iff_ne.mpr c30
                 by_cases c37 : ((rd_T116 l0_0 x37_2).f2) = 0
                 ·rw [if_pos c37] at H
                  have c37b0 : (((rd_T116 l0_0 x37_2).f2) == 0) = true := beq_iff_eq.mpr c37
                  have c37b1 : (((rd_T116 l0_0 x37_2).f2) != 0) = false := bne_eq_false_iff_eq.mpr c37
                  clear c37
                  have H' := Aside0.mk H
                  clear H
                  have p121011 : 0 ≤ (x50_3 : Int) := of_decide_eq_true (by first | (with_reducible assumption) | assumption)
                  have q121011 : x50_3 < (y121007.length : Int) := of_decide_eq_true (by first | (with_reducible assumption) | assumption)
                  obtain ⟨ad121011, A121011_1, c121011_1, e121011, hx121011_0, hx121011_1, hx121011_2, hl121011_1, hi121011_1⟩ := at_T116 HR121010.out x50_3 p121011 q121011
                  obtain rfl : ad121004 = ad121011 := (by injection e121011)
                  replace hx121011_0 := (HB.out.cell (World.block_lt_of_cell? w _ hx121011_0)).trans hx121011_0
                  replace hx121011_1 := (HB.out.cell (World.block_lt_of_cell? w _ hx121011_1)).trans hx121011_1
                  replace hx121011_2 := (HB.out.cell (World.block_lt_of_cell? w _ hx121011_2)).trans hx121011_2
                  have HR121011_1 := Aside0.mk hi121011_1; have HC121011_1 := Aside0.mk hl121011_1; clear hi121011_1 hl121011_1
                  replace p121011 := eq_true p121011
                  replace q121011 := eq_true q121011
                  go_wp2_with (first | ((with_reducible refine gate_dst (N := 6) rfl ?_); refine box_event ?hg (N := 6) ?hd (cs := #[.string (⟨#[]⟩ : ByteArray), .slice none 0 0, .int .i64 0]) (t := 116) ?hr ?_; (case hd => rfl); (case hg => rfl); (case hr => first | (go_simp; done) | (go_simp; rfl)); intro gb121012 hg w38 hbox hb; have n0_ := Aside0.mk (blk_below (g := gb121001) (o := .cells #[.slice (some ad121004) l0_0.length c0_0, .slice A0_1 l0_1.length c0_1, .int .i64 a0_2] 35 (0, 0)) (by (with_reducible repeat (first | refine blk_drewN ?_ _ | refine blk_drew ?_ | refine blk_alloc ?_ _)); exact BK121001.out) hb); have n1_ := Aside0.mk (blk_below (g := gb121005) (o := .cells #[.string ((rd_T116 l0_0 x37_2).f0), .slice A121004_1 ((rd_T116 l0_0 x37_2).f1).length c121004_1, .int .i64 ((rd_T116 l0_0 x37_2).f2)] 116 (0, 0)) (by (with_reducible repeat (first | refine blk_drewN ?_ _ | refine blk_drew ?_ | refine blk_alloc ?_ _)); exact BK121005.out) hb); have n2_ := Aside0.mk (below_step (by repeat (first | (with_reducible first | exact HB.out | apply below_alloc | apply pw_below_drewN | apply below_drew1 | refine below_set ?_ GE121001.out | refine below_set ?_ GE121005.out) | exact HB.out)) hb); have n3_ := Aside0.mk (hbox); have n4_ := Aside0.mk ((by rw [hg]; exact (below_size (by repeat (first | (with_reducible first | exact HB.out | apply below_alloc | apply pw_below_drewN | apply below_drew1 | refine below_set ?_ GE121001.out | refine below_set ?_ GE121005.out) | exact HB.out))) : w.heap.size ≤ gb121012)); have n5_ := Aside0.mk ((by rw [hg]; exact (below_size (by repeat (first | (with_reducible first | exact HB.out | apply below_alloc | apply pw_below_drewN | apply below_drew1 | refine below_set ?_ GE121001.out | refine below_set ?_ GE121005.out) | exact HB.out))) : w.heap.size ≤ gb121012)); have n6_ := Aside0.mk ((by rw [hg]; exact Nat.ne_of_lt (blk_lt (g := gb121001) (o := .cells #[.slice (some ad121004) l0_0.length c0_0, .slice A0_1 l0_1.length c0_1, .int .i64 a0_2] 35 (0, 0)) (by (with_reducible repeat (first | refine blk_drewN ?_ _ | refine blk_drew ?_ | refine blk_alloc ?_ _)); exact BK121001.out)) : gb121001 ≠ gb121012)); have n7_ := Aside0.mk ((by rw [hg]; exact Nat.ne_of_gt (blk_lt (g := gb121001) (o := .cells #[.slice (some ad121004) l0_0.length c0_0, .slice A0_1 l0_1.length c0_1, .int .i64 a0_2] 35 (0, 0)) (by (with_reducible repeat (first | refine blk_drewN ?_ _ | refine blk_drew ?_ | refine blk_alloc ?_ _)); exact BK121001.out)) : gb121012 ≠ gb121001)); have n8_ := Aside0.mk ((by rw [hg]; exact Nat.ne_of_lt (blk_lt (g := gb121005) (o := .cells #[.string ((rd_T116 l0_0 x37_2).f0), .slice A121004_1 ((rd_T116 l0_0 x37_2).f1).length c121004_1, .int .i64 ((rd_T116 l0_0 x37_2).f2)] 116 (0, 0)) (by (with_reducible repeat (first | refine blk_drewN ?_ _ | refine blk_drew ?_ | refine blk_alloc ?_ _)); exact BK121005.out)) : gb121005 ≠ gb121012)); have n9_ := Aside0.mk ((by rw [hg]; exact Nat.ne_of_gt (blk_lt (g := gb121005) (o := .cells #[.string ((rd_T116 l0_0 x37_2).f0), .slice A121004_1 ((rd_T116 l0_0 x37_2).f1).length c121004_1, .int .i64 ((rd_T116 l0_0 x37_2).f2)] 116 (0, 0)) (by (with_reducible repeat (first | refine blk_drewN ?_ _ | refine blk_drew ?_ | refine blk_alloc ?_ _)); exact BK121005.out)) : gb121012 ≠ gb121005)); clear BK121001; clear BK121005; clear HB; have BK121001 := n0_; have BK121005 := n1_; have HB := n2_; have BK121012 := n3_; have GW121012 := n4_; have GE121012 := n5_; have NB121001_121012 := n6_; have NB121012_121001 := n7_; have NB121005_121012 := n8_; have NB121012_121005 := n9_; clear n0_ n1_ n2_ n3_ n4_ n5_ n6_ n7_ n8_ n9_; clear hb hbox hg; have hnb39 := NB121012_121001.out; have hnc39 := NB121001_121012.out; have hnb40 := NB121012_121005.out; have hnc40 := NB121005_121012.out; have hcz41_0 : w38.cell? ⟨gb121012, 0, none⟩ = some (.string (⟨#[]⟩ : ByteArray)) := (blk_cell BK121012.out 0).trans rfl; have hcz41_1 : w38.cell? ⟨gb121012, 1, none⟩ = some (.slice none 0 0) := (blk_cell BK121012.out 1).trans rfl; have hcz41_2 : w38.cell? ⟨gb121012, 2, none⟩ = some (.int .i64 0) := (blk_cell BK121012.out 2).trans rfl; have hfz41_0 := blk_frozen BK121012.out 0; have hfz41_1 := blk_frozen BK121012.out 1; have hfz41_2 := blk_frozen BK121012.out 2; have hnb42 := NB121005_121001.out; have hnc42 := NB121001_121005.out; have hcz43_0 : w38.cell? ⟨gb121005, 0, none⟩ = some (.string ((rd_T116 l0_0 x37_2).f0)) := (blk_cell BK121005.out 0).trans rfl; have hcz43_1 : w38.cell? ⟨gb121005, 1, none⟩ = some (.slice A121004_1 ((rd_T116 l0_0 x37_2).f1).length c121004_1) := (blk_cell BK121005.out 1).trans rfl; have hcz43_2 : w38.cell? ⟨gb121005, 2, none⟩ = some (.int .i64 ((rd_T116 l0_0 x37_2).f2)) := (blk_cell BK121005.out 2).trans rfl; have hfz43_0 := blk_frozen BK121005.out 0; have hfz43_1 := blk_frozen BK121005.out 1; have hfz43_2 := blk_frozen BK121005.out 2))
                  go_roundg k3
                  case measure => have := HJ1.out; have := HK2.out; have := HK3.out; omega
                  case rel => exact ⟨(wrap64 (x50_3 + 1)), (by first | rfl | (simp; done) | (simp [*]; done)), H', ⟨by have := HJ1.out; have := HK2.out; have := HK3.out; omega⟩, ⟨by (with_reducible repeat (first | refine blk_drewN ?_ _ | refine blk_drew ?_ | refine blk_alloc ?_ _)); refine blk_far ?_ NB121001_121012.out _; (with_reducible repeat (first | refine blk_drewN ?_ _ | refine blk_drew ?_ | refine blk_alloc ?_ _)); refine blk_far ?_ NB121001_121012.out _; (with_reducible repeat (first | refine blk_drewN ?_ _ | refine blk_drew ?_ | refine blk_alloc ?_ _)); refine blk_far ?_ NB121001_121012.out _; (with_reducible repeat (first | refine blk_drewN ?_ _ | refine blk_drew ?_ | refine blk_alloc ?_ _)); exact BK121001.out⟩, ⟨by (with_reducible repeat (first | refine blk_drewN ?_ _ | refine blk_drew ?_ | refine blk_alloc ?_ _)); refine blk_far ?_ NB121005_121012.out _; (with_reducible repeat (first | refine blk_drewN ?_ _ | refine blk_drew ?_ | refine blk_alloc ?_ _)); refine blk_far ?_ NB121005_121012.out _; (with_reducible repeat (first | refine blk_drewN ?_ _ | refine blk_drew ?_ | refine blk_alloc ?_ _)); refine blk_far ?_ NB121005_121012.out _; (with_reducible repeat (first | refine blk_drewN ?_ _ | refine blk_drew ?_ | refine blk_alloc ?_ _)); exact BK121005.out⟩, ⟨by repeat (first | (with_reducible first | exact HB.out | apply below_alloc | apply pw_below_drewN | apply below_drew1 | refine below_set ?_ GE121001.out | refine below_set ?_ GE121005.out | refine below_set ?_ GE121012.out) | exact HB.out)⟩⟩
                 ·rw [if_neg c37] at H
                  have c37b0 : (((rd_T116 l0_0 x37_2).f2) == 0) = false := beq_eq_false_iff_ne.mpr c37
                  have c37b1 : (((rd_T116 l0_0 x37_2).f2) != 0) = true := bne_iff_ne.mpr c37
                  by_cases c44 : ((rd_T116 y121007 x50_3).f2) = ((rd_T116 l0_0 x37_2).f2)
                  ·rw [if_pos c44] at H
                   have c44b0 : (((rd_T116 y121007 x50_3).f2) == ((rd_T116 l0_0 x37_2).f2)) = true := beq_iff_eq.mpr c44
                   have c44b1 : (((rd_T116 y121007 x50_3).f2) != ((rd_T116 l0_0 x37_2).f2)) = false := bne_eq_false_iff_eq.mpr c44
                   clear c44
                   obtain rfl := Option.some.inj H
                   have p121011 : 0 ≤ (x50_3 : Int) := of_decide_eq_true (by first | (with_reducible assumption) | assumption)
                   have q121011 : x50_3 < (y121007.length : Int) := of_decide_eq_true (by first | (with_reducible assumption) | assumption)
                   obtain ⟨ad121011, A121011_1, c121011_1, e121011, hx121011_0, hx121011_1, hx121011_2, hl121011_1, hi121011_1⟩ := at_T116 HR121010.out x50_3 p121011 q121011
                   obtain rfl : ad121004 = ad121011 := (by injection e121011)
                   replace hx121011_0 := (HB.out.cell (World.block_lt_of_cell? w _ hx121011_0)).trans hx121011_0
                   replace hx121011_1 := (HB.out.cell (World.block_lt_of_cell? w _ hx121011_1)).trans hx121011_1
                   replace hx121011_2 := (HB.out.cell (World.block_lt_of_cell? w _ hx121011_2)).trans hx121011_2
                   have HR121011_1 := Aside0.mk hi121011_1; have HC121011_1 := Aside0.mk hl121011_1; clear hi121011_1 hl121011_1
                   replace p121011 := eq_true p121011
                   replace q121011 := eq_true q121011
                   go_wp2_with (first | ((with_reducible refine gate_dst (N := 6) rfl ?_); refine box_event ?hg (N := 6) ?hd (cs := #[.string (⟨#[]⟩ : ByteArray), .slice none 0 0, .int .i64 0]) (t := 116) ?hr ?_; (case hd => rfl); (case hg => rfl); (case hr => first | (go_simp; done) | (go_simp; rfl)); intro gb121012 hg w45 hbox hb; have n0_ := Aside0.mk (blk_below (g := gb121001) (o := .cells #[.slice (some ad121004) l0_0.length c0_0, .slice A0_1 l0_1.length c0_1, .int .i64 a0_2] 35 (0, 0)) (by (with_reducible repeat (first | refine blk_drewN ?_ _ | refine blk_drew ?_ | refine blk_alloc ?_ _)); exact BK121001.out) hb); have n1_ := Aside0.mk (blk_below (g := gb121005) (o := .cells #[.string ((rd_T116 l0_0 x37_2).f0), .slice A121004_1 ((rd_T116 l0_0 x37_2).f1).length c121004_1, .int .i64 ((rd_T116 l0_0 x37_2).f2)] 116 (0, 0)) (by (with_reducible repeat (first | refine blk_drewN ?_ _ | refine blk_drew ?_ | refine blk_alloc ?_ _)); exact BK121005.out) hb); have n2_ := Aside0.mk (below_step (by repeat (first | (with_reducible first | exact HB.out | apply below_alloc | apply pw_below_drewN | apply below_drew1 | refine below_set ?_ GE121001.out | refine below_set ?_ GE121005.out) | exact HB.out)) hb); have n3_ := Aside0.mk (hbox); have n4_ := Aside0.mk ((by rw [hg]; exact (below_size (by repeat (first | (with_reducible first | exact HB.out | apply below_alloc | apply pw_below_drewN | apply below_drew1 | refine below_set ?_ GE121001.out | refine below_set ?_ GE121005.out) | exact HB.out))) : w.heap.size ≤ gb121012)); have n5_ := Aside0.mk ((by rw [hg]; exact (below_size (by repeat (first | (with_reducible first | exact HB.out | apply below_alloc | apply pw_below_drewN | apply below_drew1 | refine below_set ?_ GE121001.out | refine below_set ?_ GE121005.out) | exact HB.out))) : w.heap.size ≤ gb121012)); have n6_ := Aside0.mk ((by rw [hg]; exact Nat.ne_of_lt (blk_lt (g := gb121001) (o := .cells #[.slice (some ad121004) l0_0.length c0_0, .slice A0_1 l0_1.length c0_1, .int .i64 a0_2] 35 (0, 0)) (by (with_reducible repeat (first | refine blk_drewN ?_ _ | refine blk_drew ?_ | refine blk_alloc ?_ _)); exact BK121001.out)) : gb121001 ≠ gb121012)); have n7_ := Aside0.mk ((by rw [hg]; exact Nat.ne_of_gt (blk_lt (g := gb121001) (o := .cells #[.slice (some ad121004) l0_0.length c0_0, .slice A0_1 l0_1.length c0_1, .int .i64 a0_2] 35 (0, 0)) (by (with_reducible repeat (first | refine blk_drewN ?_ _ | refine blk_drew ?_ | refine blk_alloc ?_ _)); exact BK121001.out)) : gb121012 ≠ gb121001)); have n8_ := Aside0.mk ((by rw [hg]; exact Nat.ne_of_lt (blk_lt (g := gb121005) (o := .cells #[.string ((rd_T116 l0_0 x37_2).f0), .slice A121004_1 ((rd_T116 l0_0 x37_2).f1).length c121004_1, .int .i64 ((rd_T116 l0_0 x37_2).f2)] 116 (0, 0)) (by (with_reducible repeat (first | refine blk_drewN ?_ _ | refine blk_drew ?_ | refine blk_alloc ?_ _)); exact BK121005.out)) : gb121005 ≠ gb121012)); have n9_ := Aside0.mk ((by rw [hg]; exact Nat.ne_of_gt (blk_lt (g := gb121005) (o := .cells #[.string ((rd_T116 l0_0 x37_2).f0), .slice A121004_1 ((rd_T116 l0_0 x37_2).f1).length c121004_1, .int .i64 ((rd_T116 l0_0 x37_2).f2)] 116 (0, 0)) (by (with_reducible repeat (first | refine blk_drewN ?_ _ | refine blk_drew ?_ | refine blk_alloc ?_ _)); exact BK121005.out)) : gb121012 ≠ gb121005)); clear BK121001; clear BK121005; clear HB; have BK121001 := n0_; have BK121005 := n1_; have HB := n2_; have BK121012 := n3_; have GW121012 := n4_; have GE121012 := n5_; have NB121001_121012 := n6_; have NB121012_121001 := n7_; have NB121005_121012 := n8_; have NB121012_121005 := n9_; clear n0_ n1_ n2_ n3_ n4_ n5_ n6_ n7_ n8_ n9_; clear hb hbox hg; have hnb46 := NB121012_121001.out; have hnc46 := NB121001_121012.out; have hnb47 := NB121012_121005.out; have hnc47 := NB121005_121012.out; have hcz48_0 : w45.cell? ⟨gb121012, 0, none⟩ = some (.string (⟨#[]⟩ : ByteArray)) := (blk_cell BK121012.out 0).trans rfl; have hcz48_1 : w45.cell? ⟨gb121012, 1, none⟩ = some (.slice none 0 0) := (blk_cell BK121012.out 1).trans rfl; have hcz48_2 : w45.cell? ⟨gb121012, 2, none⟩ = some (.int .i64 0) := (blk_cell BK121012.out 2).trans rfl; have hfz48_0 := blk_frozen BK121012.out 0; have hfz48_1 := blk_frozen BK121012.out 1; have hfz48_2 := blk_frozen BK121012.out 2; have hnb49 := NB121005_121001.out; have hnc49 := NB121001_121005.out; have hcz50_0 : w45.cell? ⟨gb121005, 0, none⟩ = some (.string ((rd_T116 l0_0 x37_2).f0)) := (blk_cell BK121005.out 0).trans rfl; have hcz50_1 : w45.cell? ⟨gb121005, 1, none⟩ = some (.slice A121004_1 ((rd_T116 l0_0 x37_2).f1).length c121004_1) := (blk_cell BK121005.out 1).trans rfl; have hcz50_2 : w45.cell? ⟨gb121005, 2, none⟩ = some (.int .i64 ((rd_T116 l0_0 x37_2).f2)) := (blk_cell BK121005.out 2).trans rfl; have hfz50_0 := blk_frozen BK121005.out 0; have hfz50_1 := blk_frozen BK121005.out 1; have hfz50_2 := blk_frozen BK121005.out 2))
                   go_ret
                   exact ⟨by first | rfl | (simp [errW_none, errW_some] <;> rfl) | (simp [*, errW_none, errW_some] <;> rfl), by repeat (first | (with_reducible first | exact HB.out | apply below_alloc | apply pw_below_drewN | apply below_drew1 | refine below_set ?_ GE121001.out | refine below_set ?_ GE121005.out | refine below_set ?_ GE121012.out) | exact HB.out)⟩
                  ·rw [if_neg c44] at H
                   have c44b0 : (((rd_T116 y121007 x50_3).f2) == ((rd_T116 l0_0 x37_2).f2)) = false := beq_eq_false_iff_ne.mpr c44
                   have c44b1 : (((rd_T116 y121007 x50_3).f2) != ((rd_T116 l0_0 x37_2).f2)) = true := bne_iff_ne.mpr c44
                   have H' := Aside0.mk H
                   clear H
                   have p121011 : 0 ≤ (x50_3 : Int) := of_decide_eq_true (by first | (with_reducible assumption) | assumption)
                   have q121011 : x50_3 < (y121007.length : Int) := of_decide_eq_true (by first | (with_reducible assumption) | assumption)
                   obtain ⟨ad121011, A121011_1, c121011_1, e121011, hx121011_0, hx121011_1, hx121011_2, hl121011_1, hi121011_1⟩ := at_T116 HR121010.out x50_3 p121011 q121011
                   obtain rfl : ad121004 = ad121011 := (by injection e121011)
                   replace hx121011_0 := (HB.out.cell (World.block_lt_of_cell? w _ hx121011_0)).trans hx121011_0
                   replace hx121011_1 := (HB.out.cell (World.block_lt_of_cell? w _ hx121011_1)).trans hx121011_1
                   replace hx121011_2 := (HB.out.cell (World.block_lt_of_cell? w _ hx121011_2)).trans hx121011_2
                   have HR121011_1 := Aside0.mk hi121011_1; have HC121011_1 := Aside0.mk hl121011_1; clear hi121011_1 hl121011_1
                   replace p121011 := eq_true p121011
                   replace q121011 := eq_true q121011
                   go_wp2_with (first | ((with_reducible refine gate_dst (N := 6) rfl ?_); refine box_event ?hg (N := 6) ?hd (cs := #[.string (⟨#[]⟩ : ByteArray), .slice none 0 0, .int .i64 0]) (t := 116) ?hr ?_; (case hd => rfl); (case hg => rfl); (case hr => first | (go_simp; done) | (go_simp; rfl)); intro gb121012 hg w51 hbox hb; have n0_ := Aside0.mk (blk_below (g := gb121001) (o := .cells #[.slice (some ad121004) l0_0.length c0_0, .slice A0_1 l0_1.length c0_1, .int .i64 a0_2] 35 (0, 0)) (by (with_reducible repeat (first | refine blk_drewN ?_ _ | refine blk_drew ?_ | refine blk_alloc ?_ _)); exact BK121001.out) hb); have n1_ := Aside0.mk (blk_below (g := gb121005) (o := .cells #[.string ((rd_T116 l0_0 x37_2).f0), .slice A121004_1 ((rd_T116 l0_0 x37_2).f1).length c121004_1, .int .i64 ((rd_T116 l0_0 x37_2).f2)] 116 (0, 0)) (by (with_reducible repeat (first | refine blk_drewN ?_ _ | refine blk_drew ?_ | refine blk_alloc ?_ _)); exact BK121005.out) hb); have n2_ := Aside0.mk (below_step (by repeat (first | (with_reducible first | exact HB.out | apply below_alloc | apply pw_below_drewN | apply below_drew1 | refine below_set ?_ GE121001.out | refine below_set ?_ GE121005.out) | exact HB.out)) hb); have n3_ := Aside0.mk (hbox); have n4_ := Aside0.mk ((by rw [hg]; exact (below_size (by repeat (first | (with_reducible first | exact HB.out | apply below_alloc | apply pw_below_drewN | apply below_drew1 | refine below_set ?_ GE121001.out | refine below_set ?_ GE121005.out) | exact HB.out))) : w.heap.size ≤ gb121012)); have n5_ := Aside0.mk ((by rw [hg]; exact (below_size (by repeat (first | (with_reducible first | exact HB.out | apply below_alloc | apply pw_below_drewN | apply below_drew1 | refine below_set ?_ GE121001.out | refine below_set ?_ GE121005.out) | exact HB.out))) : w.heap.size ≤ gb121012)); have n6_ := Aside0.mk ((by rw [hg]; exact Nat.ne_of_lt (blk_lt (g := gb121001) (o := .cells #[.slice (some ad121004) l0_0.length c0_0, .slice A0_1 l0_1.length c0_1, .int .i64 a0_2] 35 (0, 0)) (by (with_reducible repeat (first | refine blk_drewN ?_ _ | refine blk_drew ?_ | refine blk_alloc ?_ _)); exact BK121001.out)) : gb121001 ≠ gb121012)); have n7_ := Aside0.mk ((by rw [hg]; exact Nat.ne_of_gt (blk_lt (g := gb121001) (o := .cells #[.slice (some ad121004) l0_0.length c0_0, .slice A0_1 l0_1.length c0_1, .int .i64 a0_2] 35 (0, 0)) (by (with_reducible repeat (first | refine blk_drewN ?_ _ | refine blk_drew ?_ | refine blk_alloc ?_ _)); exact BK121001.out)) : gb121012 ≠ gb121001)); have n8_ := Aside0.mk ((by rw [hg]; exact Nat.ne_of_lt (blk_lt (g := gb121005) (o := .cells #[.string ((rd_T116 l0_0 x37_2).f0), .slice A121004_1 ((rd_T116 l0_0 x37_2).f1).length c121004_1, .int .i64 ((rd_T116 l0_0 x37_2).f2)] 116 (0, 0)) (by (with_reducible repeat (first | refine blk_drewN ?_ _ | refine blk_drew ?_ | refine blk_alloc ?_ _)); exact BK121005.out)) : gb121005 ≠ gb121012)); have n9_ := Aside0.mk ((by rw [hg]; exact Nat.ne_of_gt (blk_lt (g := gb121005) (o := .cells #[.string ((rd_T116 l0_0 x37_2).f0), .slice A121004_1 ((rd_T116 l0_0 x37_2).f1).length c121004_1, .int .i64 ((rd_T116 l0_0 x37_2).f2)] 116 (0, 0)) (by (with_reducible repeat (first | refine blk_drewN ?_ _ | refine blk_drew ?_ | refine blk_alloc ?_ _)); exact BK121005.out)) : gb121012 ≠ gb121005)); clear BK121001; clear BK121005; clear HB; have BK121001 := n0_; have BK121005 := n1_; have HB := n2_; have BK121012 := n3_; have GW121012 := n4_; have GE121012 := n5_; have NB121001_121012 := n6_; have NB121012_121001 := n7_; have NB121005_121012 := n8_; have NB121012_121005 := n9_; clear n0_ n1_ n2_ n3_ n4_ n5_ n6_ n7_ n8_ n9_; clear hb hbox hg; have hnb52 := NB121012_121001.out; have hnc52 := NB121001_121012.out; have hnb53 := NB121012_121005.out; have hnc53 := NB121005_121012.out; have hcz54_0 : w51.cell? ⟨gb121012, 0, none⟩ = some (.string (⟨#[]⟩ : ByteArray)) := (blk_cell BK121012.out 0).trans rfl; have hcz54_1 : w51.cell? ⟨gb121012, 1, none⟩ = some (.slice none 0 0) := (blk_cell BK121012.out 1).trans rfl; have hcz54_2 : w51.cell? ⟨gb121012, 2, none⟩ = some (.int .i64 0) := (blk_cell BK121012.out 2).trans rfl; have hfz54_0 := blk_frozen BK121012.out 0; have hfz54_1 := blk_frozen BK121012.out 1; have hfz54_2 := blk_frozen BK121012.out 2; have hnb55 := NB121005_121001.out; have hnc55 := NB121001_121005.out; have hcz56_0 : w51.cell? ⟨gb121005, 0, none⟩ = some (.string ((rd_T116 l0_0 x37_2).f0)) := (blk_cell BK121005.out 0).trans rfl; have hcz56_1 : w51.cell? ⟨gb121005, 1, none⟩ = some (.slice A121004_1 ((rd_T116 l0_0 x37_2).f1).length c121004_1) := (blk_cell BK121005.out 1).trans rfl; have hcz56_2 : w51.cell? ⟨gb121005, 2, none⟩ = some (.int .i64 ((rd_T116 l0_0 x37_2).f2)) := (blk_cell BK121005.out 2).trans rfl; have hfz56_0 := blk_frozen BK121005.out 0; have hfz56_1 := blk_frozen BK121005.out 1; have hfz56_2 := blk_frozen BK121005.out 2))
                   go_roundg k3
                   case measure => have := HJ1.out; have := HK2.out; have := HK3.out; omega
                   case rel => exact ⟨(wrap64 (x50_3 + 1)), (by first | rfl | (simp; done) | (simp [*]; done)), H', ⟨by have := HJ1.out; have := HK2.out; have := HK3.out; omega⟩, ⟨by (with_reducible repeat (first | refine blk_drewN ?_ _ | refine blk_drew ?_ | refine blk_alloc ?_ _)); refine blk_far ?_ NB121001_121012.out _; (with_reducible repeat (first | refine blk_drewN ?_ _ | refine blk_drew ?_ | refine blk_alloc ?_ _)); refine blk_far ?_ NB121001_121012.out _; (with_reducible repeat (first | refine blk_drewN ?_ _ | refine blk_drew ?_ | refine blk_alloc ?_ _)); refine blk_far ?_ NB121001_121012.out _; (with_reducible repeat (first | refine blk_drewN ?_ _ | refine blk_drew ?_ | refine blk_alloc ?_ _)); exact BK121001.out⟩, ⟨by (with_reducible repeat (first | refine blk_drewN ?_ _ | refine blk_drew ?_ | refine blk_alloc ?_ _)); refine blk_far ?_ NB121005_121012.out _; (with_reducible repeat (first | refine blk_drewN ?_ _ | refine blk_drew ?_ | refine blk_alloc ?_ _)); refine blk_far ?_ NB121005_121012.out _; (with_reducible repeat (first | refine blk_drewN ?_ _ | refine blk_drew ?_ | refine blk_alloc ?_ _)); refine blk_far ?_ NB121005_121012.out _; (with_reducible repeat (first | refine blk_drewN ?_ _ | refine blk_drew ?_ | refine blk_alloc ?_ _)); exact BK121005.out⟩, ⟨by repeat (first | (with_reducible first | exact HB.out | apply below_alloc | apply pw_below_drewN | apply below_drew1 | refine below_set ?_ GE121001.out | refine below_set ?_ GE121005.out | refine below_set ?_ GE121012.out) | exact HB.out)⟩⟩
               ·rw [if_neg c29] at H
                exact absurd H (by simp)
              ·rw [if_neg c28] at H
               exact absurd H (by simp)
             ·rw [if_neg c27] at H
              have c27b0 : decide (x50_3 < (y121007.length : Int)) = false := decide_eq_false c27
              clear c27
              have H' := Aside0.mk H
              clear H
              go_wp2
              go_roundg k3
              case measure => have := HJ1.out; have := HK2.out; have := HK3.out; omega
              case rel => exact ⟨(wrap64 (x37_2 + 1)), (by first | rfl | (simp; done) | (simp [*]; done)), H', ⟨by have := HJ1.out; have := HK2.out; have := HK3.out; omega⟩, ⟨by (with_reducible repeat (first | refine blk_drewN ?_ _ | refine blk_drew ?_ | refine blk_alloc ?_ _)); exact BK121001.out⟩, ⟨by repeat (first | (with_reducible first | exact HB.out | apply below_alloc | apply pw_below_drewN | apply below_drew1 | refine below_set ?_ GE121001.out | refine below_set ?_ GE121005.out) | exact HB.out)⟩⟩
          ·rw [if_neg c20] at H
           exact absurd H (by simp)
         ·replace c18 := Bool.eq_false_iff.mpr c18
          subst c18
          have H1 : (some false) = some r := by rw [if_neg (show ¬ (false = true) by decide)] at H; exact H
          clear H
          have H := H1
          clear H1
          obtain rfl := Option.some.inj H
          have p121004 : 0 ≤ (x37_2 : Int) := of_decide_eq_true (by first | (with_reducible assumption) | assumption)
          have q121004 : x37_2 < (l0_0.length : Int) := of_decide_eq_true (by first | (with_reducible assumption) | assumption)
          obtain ⟨ad121004, A121004_1, c121004_1, e121004, hx121004_0, hx121004_1, hx121004_2, hl121004_1, hi121004_1⟩ := at_T116 HR0_0.out x37_2 p121004 q121004
          cases e121004
          replace hx121004_0 := (HB.out.cell (World.block_lt_of_cell? w _ hx121004_0)).trans hx121004_0
          replace hx121004_1 := (HB.out.cell (World.block_lt_of_cell? w _ hx121004_1)).trans hx121004_1
          replace hx121004_2 := (HB.out.cell (World.block_lt_of_cell? w _ hx121004_2)).trans hx121004_2
          have HR121004_1 := Aside0.mk hi121004_1; have HC121004_1 := Aside0.mk hl121004_1; clear hi121004_1 hl121004_1
          replace p121004 := eq_true p121004
          replace q121004 := eq_true q121004
          go_wp2_with (first | ((with_reducible refine gate_dst (N := 4) rfl ?_); refine box_event ?hg (N := 4) ?hd (cs := #[.string (⟨#[]⟩ : ByteArray), .slice none 0 0, .int .i64 0]) (t := 116) ?hr ?_; (case hd => rfl); (case hg => rfl); (case hr => first | (go_simp; done) | (go_simp; rfl)); intro gb121005 hg w57 hbox hb; have n0_ := Aside0.mk (blk_below (g := gb121001) (o := .cells #[.slice (some ad121004) l0_0.length c0_0, .slice A0_1 l0_1.length c0_1, .int .i64 a0_2] 35 (0, 0)) (by (with_reducible repeat (first | refine blk_drewN ?_ _ | refine blk_drew ?_ | refine blk_alloc ?_ _)); exact BK121001.out) hb); have n1_ := Aside0.mk (below_step (by repeat (first | (with_reducible first | exact HB.out | apply below_alloc | apply pw_below_drewN | apply below_drew1 | refine below_set ?_ GE121001.out) | exact HB.out)) hb); have n2_ := Aside0.mk (hbox); have n3_ := Aside0.mk ((by rw [hg]; exact (below_size (by repeat (first | (with_reducible first | exact HB.out | apply below_alloc | apply pw_below_drewN | apply below_drew1 | refine below_set ?_ GE121001.out) | exact HB.out))) : w.heap.size ≤ gb121005)); have n4_ := Aside0.mk ((by rw [hg]; exact (below_size (by repeat (first | (with_reducible first | exact HB.out | apply below_alloc | apply pw_below_drewN | apply below_drew1 | refine below_set ?_ GE121001.out) | exact HB.out))) : w.heap.size ≤ gb121005)); have n5_ := Aside0.mk ((by rw [hg]; exact Nat.ne_of_lt (blk_lt (g := gb121001) (o := .cells #[.slice (some ad121004) l0_0.length c0_0, .slice A0_1 l0_1.length c0_1, .int .i64 a0_2] 35 (0, 0)) (by (with_reducible repeat (first | refine blk_drewN ?_ _ | refine blk_drew ?_ | refine blk_alloc ?_ _)); exact BK121001.out)) : gb121001 ≠ gb121005)); have n6_ := Aside0.mk ((by rw [hg]; exact Nat.ne_of_gt (blk_lt (g := gb121001) (o := .cells #[.slice (some ad121004) l0_0.length c0_0, .slice A0_1 l0_1.length c0_1, .int .i64 a0_2] 35 (0, 0)) (by (with_reducible repeat (first | refine blk_drewN ?_ _ | refine blk_drew ?_ | refine blk_alloc ?_ _)); exact BK121001.out)) : gb121005 ≠ gb121001)); clear BK121001; clear HB; have BK121001 := n0_; have HB := n1_; have BK121005 := n2_; have GW121005 := n3_; have GE121005 := n4_; have NB121001_121005 := n5_; have NB121005_121001 := n6_; clear n0_ n1_ n2_ n3_ n4_ n5_ n6_; clear hb hbox hg; have hnb58 := NB121005_121001.out; have hnc58 := NB121001_121005.out; have hcz59_0 : w57.cell? ⟨gb121005, 0, none⟩ = some (.string (⟨#[]⟩ : ByteArray)) := (blk_cell BK121005.out 0).trans rfl; have hcz59_1 : w57.cell? ⟨gb121005, 1, none⟩ = some (.slice none 0 0) := (blk_cell BK121005.out 1).trans rfl; have hcz59_2 : w57.cell? ⟨gb121005, 2, none⟩ = some (.int .i64 0) := (blk_cell BK121005.out 2).trans rfl; have hfz59_0 := blk_frozen BK121005.out 0; have hfz59_1 := blk_frozen BK121005.out 1; have hfz59_2 := blk_frozen BK121005.out 2) | ((with_reducible refine gate_callee (f := 157) rfl ?_); refine goesL_ (some 43) rfl rfl Try.func157 (by kernel_rfl) rfl #[.agg #[.string ((rd_T116 l0_0 x37_2).f0), .slice A121004_1 ((rd_T116 l0_0 x37_2).f1).length c121004_1, .int .i64 ((rd_T116 l0_0 x37_2).f2)]] rfl (by (try simp only [List.map_toArray, List.map_cons, List.map_nil]); first | done | rfl | (simp only [List.length_drop, List.length_take]; rfl)) ?_; (with_reducible refine (impl_NodeOk.calls k2 ((rd_T116 l0_0 x37_2).f0) _ _ ((rd_T116 l0_0 x37_2).f1) ((rd_T116 l0_0 x37_2).f2) false _ ?side1 ?side2 A17.out).mono ?_); (case side1 => exact Kd.C_below HR121004_1.out (by repeat (first | (with_reducible first | exact HB.out | apply below_alloc | apply pw_below_drewN | apply below_drew1 | refine below_set ?_ GE121001.out | refine below_set ?_ GE121005.out) | exact HB.out))); (case side2 => exact HC121004_1.out); rintro e w60 ⟨rfl, hb⟩; refine ⟨_, rfl, ?_⟩; have n0_ := Aside0.mk (blk_below (g := gb121001) (o := .cells #[.slice (some ad121004) l0_0.length c0_0, .slice A0_1 l0_1.length c0_1, .int .i64 a0_2] 35 (0, 0)) (by (with_reducible repeat (first | refine blk_drewN ?_ _ | refine blk_drew ?_ | refine blk_alloc ?_ _)); refine blk_far ?_ NB121001_121005.out _; (with_reducible repeat (first | refine blk_drewN ?_ _ | refine blk_drew ?_ | refine blk_alloc ?_ _)); refine blk_far ?_ NB121001_121005.out _; (with_reducible repeat (first | refine blk_drewN ?_ _ | refine blk_drew ?_ | refine blk_alloc ?_ _)); refine blk_far ?_ NB121001_121005.out _; (with_reducible repeat (first | refine blk_drewN ?_ _ | refine blk_drew ?_ | refine blk_alloc ?_ _)); exact BK121001.out) hb); have n1_ := Aside0.mk (blk_below (g := gb121005) (o := .cells #[.string ((rd_T116 l0_0 x37_2).f0), .slice A121004_1 ((rd_T116 l0_0 x37_2).f1).length c121004_1, .int .i64 ((rd_T116 l0_0 x37_2).f2)] 116 (0, 0)) (by (with_reducible repeat (first | refine blk_drewN ?_ _ | refine blk_drew ?_ | refine blk_alloc ?_ _)); refine blk_put (cs := #[.string ((rd_T116 l0_0 x37_2).f0), .slice A121004_1 ((rd_T116 l0_0 x37_2).f1).length c121004_1, .int .i64 0]) ?_ 2 _ rfl; (with_reducible repeat (first | refine blk_drewN ?_ _ | refine blk_drew ?_ | refine blk_alloc ?_ _)); refine blk_put (cs := #[.string ((rd_T116 l0_0 x37_2).f0), .slice none 0 0, .int .i64 0]) ?_ 1 _ rfl; (with_reducible repeat (first | refine blk_drewN ?_ _ | refine blk_drew ?_ | refine blk_alloc ?_ _)); refine blk_put (cs := #[.string (⟨#[]⟩ : ByteArray), .slice none 0 0, .int .i64 0]) ?_ 0 _ rfl; (with_reducible repeat (first | refine blk_drewN ?_ _ | refine blk_drew ?_ | refine blk_alloc ?_ _)); exact BK121005.out) hb); have n2_ := Aside0.mk (below_step (by repeat (first | (with_reducible first | exact HB.out | apply below_alloc | apply pw_below_drewN | apply below_drew1 | refine below_set ?_ GE121001.out | refine below_set ?_ GE121005.out) | exact HB.out)) hb); clear BK121001; clear BK121005; clear HB; have BK121001 := n0_; have BK121005 := n1_; have HB := n2_; clear n0_ n1_ n2_; (try clear hb); (try clear hb2); (try clear hk); (try clear hi)))
          go_ret
          exact ⟨by first | rfl | (simp [errW_none, errW_some] <;> rfl) | (simp [*, errW_none, errW_some] <;> rfl), by repeat (first | (with_reducible first | exact HB.out | apply below_alloc | apply pw_below_drewN | apply below_drew1 | refine below_set ?_ GE121001.out | refine below_set ?_ GE121005.out) | exact HB.out)⟩
        ·rw [if_neg c16] at H
         exact absurd H (by simp)
       ·rw [if_neg c15] at H
        exact absurd H (by simp)
      ·rw [if_neg c14] at H
       have c14b0 : decide (x37_2 < (l0_0.length : Int)) = false := decide_eq_false c14
       clear c14
       obtain rfl := Option.some.inj H
       go_wp2
       go_ret
       exact ⟨by first | rfl | (simp [errW_none, errW_some] <;> rfl) | (simp [*, errW_none, errW_some] <;> rfl), by repeat (first | (with_reducible first | exact HB.out | apply below_alloc | apply pw_below_drewN | apply below_drew1 | refine below_set ?_ GE121001.out) | exact HB.out)⟩

end Go.Proofs.Ytodfnelilhjoeaa.Pr

namespace Go.Proofs.Ytodfnelilhjoeaa.Pr
open Go.RowKit Go.Proofs.YtodfnelilhjoeaaW.PrintWords Go.Proofs.Ytodfnelilhjoeaa.Ni
/-- A node against one before it. -/
def nodeVs (n m : PNode) : Bool := !(decide (m.f0.toList = n.f0.toList)) && (decide (n.f2 = 0) || !(decide (m.f2 = n.f2)))
def nodeAt (ns : List PNode) (i : Nat) : Bool := nodeB (ns.getD i z116).f0 (ns.getD i z116).f1 (ns.getD i z116).f2 && (ns.take i).all (nodeVs (ns.getD i z116))
def nodesFrom (ns : List PNode) (i : Nat) : Nat → Bool
 | 0 => true
 | d + 1 => nodeAt ns i && nodesFrom ns (i + 1) d
def areNodesB (ns : List PNode) : Bool := decide (1 ≤ ns.length) && decide (ns.length ≤ 7) && decide ((ns.getD 0 z116).f1.length = 0) && decide ((ns.getD 0 z116).f2 = 0) && nodesFrom ns 0 ns.length
theorem nodesFrom_step {ns : List PNode} {i : Nat} (h : i < ns.length) : nodesFrom ns i (ns.length - i) = (nodeAt ns i && nodesFrom ns (i + 1) (ns.length - (i + 1))) := by
 rw [show ns.length - i = (ns.length - (i + 1)) + 1 by omega]; rfl
theorem areNodes_l1 (ns : List PNode) (ts : List PTie) (z : Int) (i : Nat) (hi : i < ns.length) (h7 : ns.length ≤ 7) (K : Nat) (R : Option Bool) (s : ByteArray) (lb : List Int) (p : Int)
  (hR : ∀ k, K ≤ k → impl_areNodes.l0 k ns ns.length (wrap64 ((i : Int) + 1)) ns ts z = R) :
  ∀ k, K + 8 < k → impl_areNodes.l1 k ns ns.length i (ns.take i) (ns.take i).length 0 ns ts z s lb p = if (ns.take i).all (nodeVs ⟨s, lb, p⟩) = true then R else some false := by
 intro k hk
 have hlen : (ns.take i).length = i := by rw [List.length_take]; omega
 have key := loop_up (ns.take i).length (fun k j => impl_areNodes.l1 k ns ns.length i (ns.take i) (ns.take i).length (j : Int) ns ts z s lb p = if ((ns.take i).drop j).all (nodeVs ⟨s, lb, p⟩) = true then R else some false) K
  (fun k hk => by
   simp only [impl_areNodes.l1]
   rw [if_neg (by omega), hR k hk, List.drop_of_length_le (Nat.le_refl _), List.all_nil, if_pos rfl])
  (fun k j hk hj ih => by
   simp only [impl_areNodes.l1]
   rw [if_pos (by omega), if_pos (by omega), if_pos (by omega), rdN_nat, wrap_nat hj (by omega), ih, drop_cons hj z116, List.all_cons]
   generalize (ns.take i).getD j z116 = m
   by_cases h1 : m.f0.toList = s.toList
   ·rw [if_pos h1, show nodeVs ⟨s, lb, p⟩ m = false by simp [nodeVs, h1]]; rfl
   ·rw [if_neg h1]
    by_cases h2 : p = 0
    ·rw [if_pos h2, show nodeVs ⟨s, lb, p⟩ m = true by simp [nodeVs, h1, h2], Bool.true_and]
    ·rw [if_neg h2]
     by_cases h3 : m.f2 = p
     ·rw [if_pos h3, show nodeVs ⟨s, lb, p⟩ m = false by simp [nodeVs, h2, h3]]; rfl
     ·rw [if_neg h3, show nodeVs ⟨s, lb, p⟩ m = true by simp [nodeVs, h1, h3], Bool.true_and]) 0 k (Nat.zero_le _) (by omega)
 simpa using key
theorem areNodes_l0 (ns : List PNode) (ts : List PTie) (z : Int) (h7 : ns.length ≤ 7) (hb : ∀ n ∈ ns, n.f0.size ≤ 9223372036854775807 ∧ n.f1.length ≤ 9223372036854775807) :
  ∀ (d i k : Nat), i + d = ns.length → 2 ^ 64 + 10 * d < k → impl_areNodes.l0 k ns ns.length (i : Int) ns ts z = some (nodesFrom ns i d) := by
 intro d
 induction d with
 | zero =>
  intro i k hi hk
  obtain ⟨m, rfl⟩ : ∃ m, k = m + 1 := ⟨k - 1, by omega⟩
  simp only [impl_areNodes.l0]
  rw [if_neg (by omega)]; rfl
 | succ d ih =>
  intro i k hi hk
  obtain ⟨m, rfl⟩ : ∃ m, k = m + 1 := ⟨k - 1, by omega⟩
  have hlt : i < ns.length := by omega
  simp only [impl_areNodes.l0]
  have hm := hb _ (getD_mem hlt z116)
  rw [if_pos (by omega), if_pos (by omega), if_pos (by omega), rdN_nat, impl_NodeOk_f _ _ _ hm.1 hm.2 m (by omega), Option.bind_some]
  show (if _ then _ else _) = some (nodeAt ns i && nodesFrom ns (i + 1) d)
  unfold nodeAt
  cases hn : nodeB (ns.getD i z116).f0 (ns.getD i z116).f1 (ns.getD i z116).f2 with
  | false => rfl
  | true =>
   rw [if_pos rfl, if_pos (by omega), Option.bind_some, Int.toNat_natCast]
   rw [areNodes_l1 ns ts z i hlt h7 (2 ^ 64 + 10 * d + 1) (some (nodesFrom ns (i + 1) d)) _ _ _ (fun k hk => by rw [wrap_nat hlt (by omega)]; exact ih (i + 1) k (by omega) (by omega)) m (by omega)]
   cases (ns.take i).all (nodeVs (ns.getD i z116)) <;> rfl
theorem areNodes_f (ns : List PNode) (ts : List PTie) (z : Int) (hb : ∀ n ∈ ns, n.f0.size ≤ 9223372036854775807 ∧ n.f1.length ≤ 9223372036854775807) (k : Nat) (hk : 2 ^ 65 ≤ k) : impl_areNodes.f k ns ts z = some (areNodesB ns) := by
 obtain ⟨m, rfl⟩ : ∃ m, k = m + 1 := ⟨k - 1, by omega⟩
 unfold impl_areNodes.f areNodesB
 by_cases h1 : (ns.length : Int) < 1
 ·rw [if_pos h1, decide_eq_false (show ¬ 1 ≤ ns.length by omega)]
  simp [impl_areNodes.j0]
 ·rw [if_neg h1, decide_eq_true (show 1 ≤ ns.length by omega)]
  by_cases h2 : (ns.length : Int) > 7
  ·rw [if_pos h2, decide_eq_false (show ¬ ns.length ≤ 7 by omega)]
   simp [impl_areNodes.j0]
  ·rw [if_neg h2, if_pos (by omega), decide_eq_true (show ns.length ≤ 7 by omega)]
   have e0 : rd_T116 ns 0 = ns.getD 0 z116 := rfl
   rw [e0]
   by_cases h3 : ((ns.getD 0 z116).f1.length : Int) > 0
   ·rw [if_pos h3, decide_eq_false (show ¬ (ns.getD 0 z116).f1.length = 0 by omega)]
    simp [impl_areNodes.j0]
   ·rw [if_neg h3, decide_eq_true (show (ns.getD 0 z116).f1.length = 0 by omega)]
    by_cases h4 : (ns.getD 0 z116).f2 = 0
    ·rw [decide_eq_true h4, show ((ns.getD 0 z116).f2 != 0) = false by rw [h4]; rfl]
     simp only [impl_areNodes.j0, Bool.false_eq_true, if_false]
     have := areNodes_l0 ns ts z (by omega) hb ns.length 0 m (by omega) (by omega)
     rw [show ((0 : Nat) : Int) = 0 from rfl] at this
     rw [this]; rfl
    ·rw [decide_eq_false h4, show ((ns.getD 0 z116).f2 != 0) = true by rw [bne_iff_ne]; exact h4]
     simp [impl_areNodes.j0]
theorem labFrom_lit : ∀ (l : List Int) (p : Int), labFrom p l = true → ∀ x ∈ l, litOk x = true
 | [], _, _, x, hx => by simp at hx
 | y :: l, p, h, x, hx => by
  unfold labFrom at h
  simp only [Bool.and_eq_true] at h
  rcases List.mem_cons.1 hx with rfl | hx
  ·exact h.1.1
  ·exact labFrom_lit l _ h.2 x hx
theorem nodesFrom_at {ns : List PNode} : ∀ (d i : Nat), nodesFrom ns i d = true → ∀ j, i ≤ j → j < i + d → nodeAt ns j = true
 | 0, i, _, j, h1, h2 => by omega
 | d + 1, i, h, j, h1, h2 => by
  rw [nodesFrom, Bool.and_eq_true] at h
  by_cases e : j = i
  ·rw [e]; exact h.1
  ·exact nodesFrom_at d (i + 1) h.2 j (by omega) (by omega)
theorem areNodesB_at {ns : List PNode} (h : areNodesB ns = true) : ∀ j, j < ns.length → nodeAt ns j = true := by
 unfold areNodesB at h
 rw [Bool.and_eq_true] at h
 exact fun j hj => nodesFrom_at _ _ h.2 j (Nat.zero_le _) (by omega)
theorem areNodesB_lit {ns : List PNode} (h : areNodesB ns = true) : ∀ n ∈ ns, ∀ x ∈ n.f1, litOk x = true := by
 intro n hn x hx
 obtain ⟨j, hj, rfl⟩ := List.mem_iff_getElem.1 hn
 have := areNodesB_at h j hj
 unfold nodeAt nodeB labB at this
 rw [show ns.getD j z116 = ns[j] by rw [List.getD_eq_getElem?_getD, List.getElem?_eq_getElem hj]; rfl] at this
 simp only [Bool.and_eq_true] at this
 exact labFrom_lit _ _ this.1.1.2 x hx
end Go.Proofs.Ytodfnelilhjoeaa.Pr

namespace Go.Proofs.Ytodfnelilhjoeaa.Pr
open Go.RowKit Go.Proofs.YtodfnelilhjoeaaW.PrintWords Go.Proofs.YtodfnelilhjoeaaW.PrintLast Go.Proofs.YtodfnelilhjoeaaW.PrintMore
attribute [local go_sem] max2_int min2_int max_two min_two max_three min_three max_four min_four
set_option linter.unusedVariables false
set_option linter.unusedSimpArgs false

/-! ### spec_l07Has: function 150 -/
def spec_l07Has.l0 : Nat → Int → List Int → Int → Int → Option (Bool)
 | 0, _, _, _, _ => none
 | k + 1, x1, x7, x8, x9 => if x9 < x8 then (if 0 ≤ x9 then (if x9 < (x7.length : Int) then (if (rd x7 x9) = x1 then (some true) else (spec_l07Has.l0 k x1 x7 x8 (wrap64 (x9 + 1)))) else (none)) else (none)) else (some false)
def spec_l07Has.f (k : Nat) (l0 : List Int) (a1 : Int) : Option (Bool) := spec_l07Has.l0 k a1 l0 (l0.length : Int) 0
set_option maxHeartbeats 8000000 in
set_option maxRecDepth 100000 in
theorem spec_l07Has.calls (k : Nat) (A0 : Option Addr) (c0 : Nat) (l0 : List Int) (a1 : Int) (r : Bool) (w : World) (hr0 : Kd.C (Kd.int .i64) w A0 l0.length l0) (hc0 : l0.length ≤ c0) (h : spec_l07Has.f k l0 a1 = some r) :
  Calls Try.prog 150 #[.slice A0 l0.length c0, .int .i64 a1] w fun e w' => e = .returned (.bool r) ∧ Drawn0 w w' := by
 have HR0 := Aside0.mk hr0; have HC0 := Aside0.mk hc0; clear hr0 hc0
 have H : (spec_l07Has.l0 k a1 l0 (l0.length : Int) 0) = some r := h
 clear h
 have H' := Aside0.mk H
 clear H
 go_enter Try.func150, Try.ntmps150
 go_wp2
 go_loopg [9] k (fun kq v9 w' => ∃ (x9_1 : Int), v9 = .int .i64 x9_1 ∧ Aside0 (spec_l07Has.l0 kq a1 l0 (l0.length : Int) x9_1 = some r) ∧ Aside0 (kq ≤ k) ∧ Drawn0 w w')
 case atStart => exact ⟨(0), (by first | rfl | (simp; done) | (simp [*]; done)), H', ⟨Nat.le_refl _⟩, by repeat (first | exact Drawn0.refl _ | apply Drawn0.step)⟩
 case round =>
  clear H'
  try clear c1
  try clear p2
  obtain ⟨x9_1, rfl, HA, HK1, ⟨m1, rfl⟩⟩ := hrel
  cases gk with
  | zero => exact absurd HA.out (by simp [spec_l07Has.l0])
  | succ k1 =>
   have H := HA.out
   clear HA
   simp only [spec_l07Has.l0] at H
   by_cases c3 : x9_1 < (l0.length : Int)
   ·rw [if_pos c3] at H
    have c3b0 : decide (x9_1 < (l0.length : Int)) = true := decide_eq_true c3
    clear c3
    by_cases c4 : 0 ≤ x9_1
    ·rw [if_pos c4] at H
     have c4b0 : decide (0 ≤ x9_1) = true := decide_eq_true c4
     clear c4
     by_cases c5 : x9_1 < (l0.length : Int)
     ·rw [if_pos c5] at H
      have c5b0 : decide (x9_1 < (l0.length : Int)) = true := decide_eq_true c5
      clear c5
      by_cases c6 : (rd l0 x9_1) = a1
      ·rw [if_pos c6] at H
       have c6b0 : ((rd l0 x9_1) == a1) = true := beq_iff_eq.mpr c6
       have c6b1 : ((rd l0 x9_1) != a1) = false := bne_eq_false_iff_eq.mpr c6
       clear c6
       obtain rfl := Option.some.inj H
       have p150001 : 0 ≤ (x9_1 : Int) := of_decide_eq_true (by first | (with_reducible assumption) | assumption)
       have q150001 : x9_1 < (l0.length : Int) := of_decide_eq_true (by first | (with_reducible assumption) | assumption)
       obtain ⟨ad150001, e150001, hx150001_0⟩ := Kd.at_int HR0.out x9_1 p150001 q150001
       cases e150001
       replace p150001 := eq_true p150001
       replace q150001 := eq_true q150001
       go_wp2
       go_ret
       exact ⟨by first | rfl | (simp; done) | (simp [*]; done), by repeat (first | exact Drawn0.refl _ | apply Drawn0.step)⟩
      ·rw [if_neg c6] at H
       have c6b0 : ((rd l0 x9_1) == a1) = false := beq_eq_false_iff_ne.mpr c6
       have c6b1 : ((rd l0 x9_1) != a1) = true := bne_iff_ne.mpr c6
       have H' := Aside0.mk H
       clear H
       have p150001 : 0 ≤ (x9_1 : Int) := of_decide_eq_true (by first | (with_reducible assumption) | assumption)
       have q150001 : x9_1 < (l0.length : Int) := of_decide_eq_true (by first | (with_reducible assumption) | assumption)
       obtain ⟨ad150001, e150001, hx150001_0⟩ := Kd.at_int HR0.out x9_1 p150001 q150001
       cases e150001
       replace p150001 := eq_true p150001
       replace q150001 := eq_true q150001
       go_wp2
       go_roundg k1
       case measure => have := HK1.out; omega
       case rel => exact ⟨(wrap64 (x9_1 + 1)), (by first | rfl | (simp; done) | (simp [*]; done)), H', ⟨by have := HK1.out; omega⟩, by repeat (first | exact Drawn0.refl _ | apply Drawn0.step)⟩
     ·rw [if_neg c5] at H
      exact absurd H (by simp)
    ·rw [if_neg c4] at H
     exact absurd H (by simp)
   ·rw [if_neg c3] at H
    have c3b0 : decide (x9_1 < (l0.length : Int)) = false := decide_eq_false c3
    clear c3
    obtain rfl := Option.some.inj H
    go_wp2
    go_ret
    exact ⟨by first | rfl | (simp; done) | (simp [*]; done), by repeat (first | exact Drawn0.refl _ | apply Drawn0.step)⟩

end Go.Proofs.Ytodfnelilhjoeaa.Pr

