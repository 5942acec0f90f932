/- The texts of one claim, put together by a program of this session. -/
import Derived.Deep.RegionHeld3
import Derived.Test.YtodfnelilhjoeaaBTic1x1
import Derived.Test.YtodfnelilhjoeaaBTic1x10
import Derived.Test.YtodfnelilhjoeaaBTic1x11
import Derived.Test.YtodfnelilhjoeaaBTic1x2
import Derived.Test.YtodfnelilhjoeaaBTic1x7
namespace Go.Proofs.Ytodfnelilhjoeaa.Pr
open Go.RowKit Go.Proofs.YtodfnelilhjoeaaW.PrintWords Go.Proofs.YtodfnelilhjoeaaW.PrintLast Go.Proofs.YtodfnelilhjoeaaW.PrintMore
attribute [local go_sem] max2_int min2_int max_two min_two max_three min_three max_four min_four
set_option linter.unusedVariables false
set_option linter.unusedSimpArgs false
open Go.Proofs.Ytodfnelilhjoeaa.Ni
def laws_FnExactTimesFor.f (k : Nat) (l0_0 : List (S127)) (l0_1 : List (S130)) (a0_2 : Int) (l1_0 : List Int) (l1_1 : List Int) (l2 : List Int) : Option (Bool) := (if (l2.length : Int) > 1048576 then some true else ((laws_szShow.f k l0_0 l0_1 a0_2 1048576).bind fun u0_0 => (if u0_0 < 0 then some true else ((laws_szChoice.f l1_0 l1_1 u0_0).bind fun u1_0 => (if u1_0 < 0 then some true else ((laws_toShow.f k l0_0 l0_1 a0_2).bind fun b2 => (if smallB b2.1 b2.2.1 = true then ((laws_toChoice.f k l1_0 l1_1).bind fun b3 => (if b3.1.length ≤ 1048576 then (if b3.2.length ≤ 1048576 then ((laws_toIntS.f k l2).bind fun u4_0 => (if u4_0.length ≤ 1048576 then ((spec_TimesFor.f k b2.1 b2.2.1 b2.2.2 b3.1 b3.2 u4_0).bind fun b5 => ((impl_TimesFor.f k b2.1 b2.2.1 b2.2.2 b3.1 b3.2 u4_0).bind fun b6 => (if b6.2 = b5.2 then (if b6.1 = b5.1 then (if b6.1.length ≤ 1048576 then (some true) else some false) else some false) else some false))) else some false)) else some false) else some false)) else some false)))))))
set_option maxHeartbeats 8000000 in
set_option maxRecDepth 100000 in
theorem laws_FnExactTimesFor.calls (k : Nat) (A0_0 : Option Addr) (c0_0 : Nat) (l0_0 : List (S127)) (A0_1 : Option Addr) (c0_1 : Nat) (l0_1 : List (S130)) (a0_2 : Int) (A1_0 : Option Addr) (c1_0 : Nat) (l1_0 : List Int) (A1_1 : Option Addr) (c1_1 : Nat) (l1_1 : List Int) (A2 : Option Addr) (c2 : Nat) (l2 : List Int) (w : World) (hr0_0 : Kd.C k127 w A0_0 l0_0.length l0_0) (hc0_0 : l0_0.length ≤ c0_0) (hr0_1 : Kd.C k130 w A0_1 l0_1.length l0_1) (hc0_1 : l0_1.length ≤ c0_1) (hr1_0 : Kd.C (Kd.int .i64) w A1_0 l1_0.length l1_0) (hc1_0 : l1_0.length ≤ c1_0) (hr1_1 : Kd.C (Kd.int .i64) w A1_1 l1_1.length l1_1) (hc1_1 : l1_1.length ≤ c1_1) (hr2 : Kd.C (Kd.int .i64) w A2 l2.length l2) (hc2 : l2.length ≤ c2) (h : laws_FnExactTimesFor.f k l0_0 l0_1 a0_2 l1_0 l1_1 l2 = some true) :
  Calls Try.prog 13 #[.agg #[.slice A0_0 l0_0.length c0_0, .slice A0_1 l0_1.length c0_1, .int .i64 a0_2], .agg #[.slice A1_0 l1_0.length c1_0, .slice A1_1 l1_1.length c1_1], .slice A2 l2.length c2] w fun e w' => e = .returned (.bool true) ∧ Below w.heap.size w w' := by
 unfold laws_FnExactTimesFor.f at h
 have hv35 := Try.underlying35
 have hv37 := Try.underlying37
 by_cases hpre0 : (l2.length : Int) > 1048576
 case pos =>
  have hpq0 : decide (1048576 < l2.length) = true := decide_eq_true (by omega)
  have hpr0 : decide ((l2.length : Int) > 1048576) = true := decide_eq_true hpre0
  clear h hpre0
  have hu25 := Try.underlying25
  have hu28 := Try.underlying28
  have HB0 := Aside0.mk (below_alloc (below_alloc (Below.refl w.heap.size w) (.cells #[.slice A0_0 l0_0.length c0_0, .slice A0_1 l0_1.length c0_1, .int .i64 a0_2] 25)) (.cells #[.slice A1_0 l1_0.length c1_0, .slice A1_1 l1_1.length c1_1] 28))
  clear hr0_0 hc0_0 hr0_1 hc0_1 hr1_0 hc1_0 hr1_1 hc1_1 hr2 hc2
  go_enter Try.func13, Try.ntmps13
  go_wp2
  go_ret
  exact ⟨rfl, HB0.out⟩
 rw [if_neg hpre0] at h
 have hpq0 : decide (1048576 < l2.length) = false := decide_eq_false (by omega)
 have hpr0 : decide ((l2.length : Int) > 1048576) = false := decide_eq_false hpre0
 clear hpre0
 replace h := Option.bind_eq_some_iff.1 h
 obtain ⟨u0_0, HF0, h⟩ := h
 (try dsimp only at h)
 replace HF0 := Aside0.mk HF0
 by_cases hcn0 : u0_0 < 0
 case pos =>
  have hq0 : decide (u0_0 < 0) = true := decide_eq_true hcn0
  clear h hcn0
  have hu25 := Try.underlying25
  have hu28 := Try.underlying28
  have HB0 := Aside0.mk (below_alloc (below_alloc (Below.refl w.heap.size w) (.cells #[.slice A0_0 l0_0.length c0_0, .slice A0_1 l0_1.length c0_1, .int .i64 a0_2] 25)) (.cells #[.slice A1_0 l1_0.length c1_0, .slice A1_1 l1_1.length c1_1] 28))
  have Q0_0 := Aside0.mk (And.intro hc0_0 (Kd.C_below hr0_0 HB0.out))
  have Q0_1 := Aside0.mk (And.intro hc0_1 (Kd.C_below hr0_1 HB0.out))
  have Q1_0 := Aside0.mk (And.intro hc1_0 (Kd.C_below hr1_0 HB0.out))
  have Q1_1 := Aside0.mk (And.intro hc1_1 (Kd.C_below hr1_1 HB0.out))
  have Q2 := Aside0.mk (And.intro hc2 (Kd.C_below hr2 HB0.out))
  clear hr0_0 hc0_0 hr0_1 hc0_1 hr1_0 hc1_0 hr1_1 hc1_1 hr2 hc2
  go_enter Try.func13, Try.ntmps13
  go_wp2_with fail
  refine (laws_szShow.calls k A0_0 c0_0 l0_0 A0_1 c0_1 l0_1 a0_2 1048576 _ _ Q0_0.out.2 Q0_0.out.1 Q0_1.out.2 Q0_1.out.1 HF0.out).mono ?_
  rintro e w1 ⟨rfl, hb⟩
  have HB1 := Aside0.mk (HB0.out.trans (hb.mono HB0.out.size))
  have z0 : w.heap.size < w1.heap.size := Nat.lt_of_lt_of_le (by simp <;> omega) hb.size
  have s0_0 : w1.cell? ⟨w.heap.size, 0, none⟩ = some (.slice A0_0 l0_0.length c0_0) := kcell hb (by go_simp)
  have s0_1 : w1.cell? ⟨w.heap.size, 1, none⟩ = some (.slice A0_1 l0_1.length c0_1) := kcell hb (by go_simp)
  have s0_2 : w1.cell? ⟨w.heap.size, 2, none⟩ = some (.int .i64 a0_2) := kcell hb (by go_simp)
  have z1 : w.heap.size + 1 < w1.heap.size := Nat.lt_of_lt_of_le (by simp <;> omega) hb.size
  have s1_0 : w1.cell? ⟨w.heap.size + 1, 0, none⟩ = some (.slice A1_0 l1_0.length c1_0) := kcell hb (by go_simp)
  have s1_1 : w1.cell? ⟨w.heap.size + 1, 1, none⟩ = some (.slice A1_1 l1_1.length c1_1) := kcell hb (by go_simp)
  replace Q0_0 := Aside0.mk (And.intro Q0_0.out.1 (Kd.C_below Q0_0.out.2 hb))
  replace Q0_1 := Aside0.mk (And.intro Q0_1.out.1 (Kd.C_below Q0_1.out.2 hb))
  replace Q1_0 := Aside0.mk (And.intro Q1_0.out.1 (Kd.C_below Q1_0.out.2 hb))
  replace Q1_1 := Aside0.mk (And.intro Q1_1.out.1 (Kd.C_below Q1_1.out.2 hb))
  replace Q2 := Aside0.mk (And.intro Q2.out.1 (Kd.C_below Q2.out.2 hb))
  have HK1 := Aside0.mk fun (W : World) (hA : Below w1.heap.size w1 W) => And.intro (HB1.out.trans (hA.mono HB1.out.size)) (And.intro (Nat.lt_of_lt_of_le z0 hA.size) (And.intro (kcell hA s0_0) (And.intro (kcell hA s0_1) (And.intro (kcell hA s0_2) (And.intro (Nat.lt_of_lt_of_le z1 hA.size) (And.intro (kcell hA s1_0) (And.intro (kcell hA s1_1) (And.intro (Aside0.mk (And.intro Q0_0.out.1 (Kd.C_below Q0_0.out.2 hA))) (And.intro (Aside0.mk (And.intro Q0_1.out.1 (Kd.C_below Q0_1.out.2 hA))) (And.intro (Aside0.mk (And.intro Q1_0.out.1 (Kd.C_below Q1_0.out.2 hA))) (And.intro (Aside0.mk (And.intro Q1_1.out.1 (Kd.C_below Q1_1.out.2 hA))) ((Aside0.mk (And.intro Q2.out.1 (Kd.C_below Q2.out.2 hA)))))))))))))))
  clear z0 s0_0 s0_1 s0_2 z1 s1_0 s1_1 Q0_0 Q0_1 Q1_0 Q1_1 Q2 hb
  obtain ⟨hB, z0, s0_0, s0_1, s0_2, z1, s1_0, s1_1, Q0_0, Q0_1, Q1_0, Q1_1, Q2⟩ := HK1.out _ (Below.refl _ _)
  go_wp2
  go_ret
  exact ⟨rfl, (HK1.out _ (Below.refl _ _)).1⟩
 rw [if_neg hcn0] at h
 have hq0 : decide (u0_0 < 0) = false := decide_eq_false hcn0
 clear hcn0
 replace h := Option.bind_eq_some_iff.1 h
 obtain ⟨u1_0, HF1, h⟩ := h
 (try dsimp only at h)
 replace HF1 := Aside0.mk HF1
 by_cases hcn1 : u1_0 < 0
 case pos =>
  have hq1 : decide (u1_0 < 0) = true := decide_eq_true hcn1
  clear h hcn1
  have hu25 := Try.underlying25
  have hu28 := Try.underlying28
  have HB0 := Aside0.mk (below_alloc (below_alloc (Below.refl w.heap.size w) (.cells #[.slice A0_0 l0_0.length c0_0, .slice A0_1 l0_1.length c0_1, .int .i64 a0_2] 25)) (.cells #[.slice A1_0 l1_0.length c1_0, .slice A1_1 l1_1.length c1_1] 28))
  have Q0_0 := Aside0.mk (And.intro hc0_0 (Kd.C_below hr0_0 HB0.out))
  have Q0_1 := Aside0.mk (And.intro hc0_1 (Kd.C_below hr0_1 HB0.out))
  have Q1_0 := Aside0.mk (And.intro hc1_0 (Kd.C_below hr1_0 HB0.out))
  have Q1_1 := Aside0.mk (And.intro hc1_1 (Kd.C_below hr1_1 HB0.out))
  have Q2 := Aside0.mk (And.intro hc2 (Kd.C_below hr2 HB0.out))
  clear hr0_0 hc0_0 hr0_1 hc0_1 hr1_0 hc1_0 hr1_1 hc1_1 hr2 hc2
  go_enter Try.func13, Try.ntmps13
  go_wp2_with fail
  refine (laws_szShow.calls k A0_0 c0_0 l0_0 A0_1 c0_1 l0_1 a0_2 1048576 _ _ Q0_0.out.2 Q0_0.out.1 Q0_1.out.2 Q0_1.out.1 HF0.out).mono ?_
  rintro e w1 ⟨rfl, hb⟩
  have HB1 := Aside0.mk (HB0.out.trans (hb.mono HB0.out.size))
  have z0 : w.heap.size < w1.heap.size := Nat.lt_of_lt_of_le (by simp <;> omega) hb.size
  have s0_0 : w1.cell? ⟨w.heap.size, 0, none⟩ = some (.slice A0_0 l0_0.length c0_0) := kcell hb (by go_simp)
  have s0_1 : w1.cell? ⟨w.heap.size, 1, none⟩ = some (.slice A0_1 l0_1.length c0_1) := kcell hb (by go_simp)
  have s0_2 : w1.cell? ⟨w.heap.size, 2, none⟩ = some (.int .i64 a0_2) := kcell hb (by go_simp)
  have z1 : w.heap.size + 1 < w1.heap.size := Nat.lt_of_lt_of_le (by simp <;> omega) hb.size
  have s1_0 : w1.cell? ⟨w.heap.size + 1, 0, none⟩ = some (.slice A1_0 l1_0.length c1_0) := kcell hb (by go_simp)
  have s1_1 : w1.cell? ⟨w.heap.size + 1, 1, none⟩ = some (.slice A1_1 l1_1.length c1_1) := kcell hb (by go_simp)
  replace Q0_0 := Aside0.mk (And.intro Q0_0.out.1 (Kd.C_below Q0_0.out.2 hb))
  replace Q0_1 := Aside0.mk (And.intro Q0_1.out.1 (Kd.C_below Q0_1.out.2 hb))
  replace Q1_0 := Aside0.mk (And.intro Q1_0.out.1 (Kd.C_below Q1_0.out.2 hb))
  replace Q1_1 := Aside0.mk (And.intro Q1_1.out.1 (Kd.C_below Q1_1.out.2 hb))
  replace Q2 := Aside0.mk (And.intro Q2.out.1 (Kd.C_below Q2.out.2 hb))
  have HK1 := Aside0.mk fun (W : World) (hA : Below w1.heap.size w1 W) => And.intro (HB1.out.trans (hA.mono HB1.out.size)) (And.intro (Nat.lt_of_lt_of_le z0 hA.size) (And.intro (kcell hA s0_0) (And.intro (kcell hA s0_1) (And.intro (kcell hA s0_2) (And.intro (Nat.lt_of_lt_of_le z1 hA.size) (And.intro (kcell hA s1_0) (And.intro (kcell hA s1_1) (And.intro (Aside0.mk (And.intro Q0_0.out.1 (Kd.C_below Q0_0.out.2 hA))) (And.intro (Aside0.mk (And.intro Q0_1.out.1 (Kd.C_below Q0_1.out.2 hA))) (And.intro (Aside0.mk (And.intro Q1_0.out.1 (Kd.C_below Q1_0.out.2 hA))) (And.intro (Aside0.mk (And.intro Q1_1.out.1 (Kd.C_below Q1_1.out.2 hA))) ((Aside0.mk (And.intro Q2.out.1 (Kd.C_below Q2.out.2 hA)))))))))))))))
  clear z0 s0_0 s0_1 s0_2 z1 s1_0 s1_1 Q0_0 Q0_1 Q1_0 Q1_1 Q2 hb
  obtain ⟨hB, z0, s0_0, s0_1, s0_2, z1, s1_0, s1_1, Q0_0, Q0_1, Q1_0, Q1_1, Q2⟩ := HK1.out _ (Below.refl _ _)
  go_wp2_with fail
  refine (laws_szChoice.calls A1_0 c1_0 l1_0 A1_1 c1_1 l1_1 u0_0 _ _ Q1_0.out.2 Q1_0.out.1 Q1_1.out.2 Q1_1.out.1 HF1.out).mono ?_
  rintro e w2 ⟨rfl, hb⟩
  have B2 := Aside0.mk hb; clear hB z0 s0_0 s0_1 s0_2 z1 s1_0 s1_1 Q0_0 Q0_1 Q1_0 Q1_1 Q2 hb
  have HK2 := Aside0.mk fun (W : World) (hA : Below w2.heap.size w2 W) => HK1.out W (B2.out.trans (hA.mono B2.out.size))
  obtain ⟨hB, z0, s0_0, s0_1, s0_2, z1, s1_0, s1_1, Q0_0, Q0_1, Q1_0, Q1_1, Q2⟩ := HK2.out _ (Below.refl _ _)
  go_wp2
  go_ret
  exact ⟨rfl, (HK2.out _ (Below.refl _ _)).1⟩
 rw [if_neg hcn1] at h
 have hq1 : decide (u1_0 < 0) = false := decide_eq_false hcn1
 clear hcn1
 replace h := Option.bind_eq_some_iff.1 h
 obtain ⟨⟨u2_0_0, u2_0_1, u2_0_2⟩, HF2, h⟩ := h
 (try dsimp only at h)
 replace HF2 := Aside0.mk HF2
 by_cases ht121 : smallB u2_0_0 u2_0_1 = true
 case neg => rw [if_neg ht121] at h; exact absurd h (by simp)
 rw [if_pos ht121] at h
 have SM_u2_0_0 := Aside0.mk (smallB_iff ht121)
 clear ht121
 replace h := Option.bind_eq_some_iff.1 h
 obtain ⟨⟨u3_0_0, u3_0_1⟩, HF3, h⟩ := h
 (try dsimp only at h)
 replace HF3 := Aside0.mk HF3
 by_cases ht130 : u3_0_0.length ≤ 1048576
 case neg => rw [if_neg ht130] at h; exact absurd h (by simp)
 rw [if_pos ht130] at h
 have SM_u3_0_0 := Aside0.mk (ht130)
 clear ht130
 by_cases ht135 : u3_0_1.length ≤ 1048576
 case neg => rw [if_neg ht135] at h; exact absurd h (by simp)
 rw [if_pos ht135] at h
 have SM_u3_0_1 := Aside0.mk (ht135)
 clear ht135
 replace h := Option.bind_eq_some_iff.1 h
 obtain ⟨u4_0, HF4, h⟩ := h
 (try dsimp only at h)
 replace HF4 := Aside0.mk HF4
 by_cases ht144 : u4_0.length ≤ 1048576
 case neg => rw [if_neg ht144] at h; exact absurd h (by simp)
 rw [if_pos ht144] at h
 have SM_u4_0 := Aside0.mk (ht144)
 clear ht144
 replace h := Option.bind_eq_some_iff.1 h
 obtain ⟨⟨u5_0, u5_1⟩, HF5, h⟩ := h
 (try dsimp only at h)
 replace HF5 := Aside0.mk HF5
 replace h := Option.bind_eq_some_iff.1 h
 obtain ⟨⟨u6_0, u6_1⟩, HF6, h⟩ := h
 (try dsimp only at h)
 replace HF6 := Aside0.mk HF6
 by_cases ht157 : u6_1 = u5_1
 case neg => rw [if_neg ht157] at h; exact absurd h (by simp)
 rw [if_pos ht157] at h
 subst ht157
 by_cases ht161 : u6_0 = u5_0
 case neg => rw [if_neg ht161] at h; exact absurd h (by simp)
 rw [if_pos ht161] at h
 subst ht161
 by_cases ht165 : u6_0.length ≤ 1048576
 case neg => rw [if_neg ht165] at h; exact absurd h (by simp)
 rw [if_pos ht165] at h
 have SM_u6_0 := Aside0.mk (ht165)
 clear ht165 h
 have hu25 := Try.underlying25
 have hu28 := Try.underlying28
 have HB0 := Aside0.mk (below_alloc (below_alloc (Below.refl w.heap.size w) (.cells #[.slice A0_0 l0_0.length c0_0, .slice A0_1 l0_1.length c0_1, .int .i64 a0_2] 25)) (.cells #[.slice A1_0 l1_0.length c1_0, .slice A1_1 l1_1.length c1_1] 28))
 have Q0_0 := Aside0.mk (And.intro hc0_0 (Kd.C_below hr0_0 HB0.out))
 have Q0_1 := Aside0.mk (And.intro hc0_1 (Kd.C_below hr0_1 HB0.out))
 have Q1_0 := Aside0.mk (And.intro hc1_0 (Kd.C_below hr1_0 HB0.out))
 have Q1_1 := Aside0.mk (And.intro hc1_1 (Kd.C_below hr1_1 HB0.out))
 have Q2 := Aside0.mk (And.intro hc2 (Kd.C_below hr2 HB0.out))
 clear hr0_0 hc0_0 hr0_1 hc0_1 hr1_0 hc1_0 hr1_1 hc1_1 hr2 hc2
 go_enter Try.func13, Try.ntmps13
 go_wp2_with fail
 refine (laws_szShow.calls k A0_0 c0_0 l0_0 A0_1 c0_1 l0_1 a0_2 1048576 _ _ Q0_0.out.2 Q0_0.out.1 Q0_1.out.2 Q0_1.out.1 HF0.out).mono ?_
 rintro e w1 ⟨rfl, hb⟩
 have HB1 := Aside0.mk (HB0.out.trans (hb.mono HB0.out.size))
 have z0 : w.heap.size < w1.heap.size := Nat.lt_of_lt_of_le (by simp <;> omega) hb.size
 have s0_0 : w1.cell? ⟨w.heap.size, 0, none⟩ = some (.slice A0_0 l0_0.length c0_0) := kcell hb (by go_simp)
 have s0_1 : w1.cell? ⟨w.heap.size, 1, none⟩ = some (.slice A0_1 l0_1.length c0_1) := kcell hb (by go_simp)
 have s0_2 : w1.cell? ⟨w.heap.size, 2, none⟩ = some (.int .i64 a0_2) := kcell hb (by go_simp)
 have z1 : w.heap.size + 1 < w1.heap.size := Nat.lt_of_lt_of_le (by simp <;> omega) hb.size
 have s1_0 : w1.cell? ⟨w.heap.size + 1, 0, none⟩ = some (.slice A1_0 l1_0.length c1_0) := kcell hb (by go_simp)
 have s1_1 : w1.cell? ⟨w.heap.size + 1, 1, none⟩ = some (.slice A1_1 l1_1.length c1_1) := kcell hb (by go_simp)
 replace Q0_0 := Aside0.mk (And.intro Q0_0.out.1 (Kd.C_below Q0_0.out.2 hb))
 replace Q0_1 := Aside0.mk (And.intro Q0_1.out.1 (Kd.C_below Q0_1.out.2 hb))
 replace Q1_0 := Aside0.mk (And.intro Q1_0.out.1 (Kd.C_below Q1_0.out.2 hb))
 replace Q1_1 := Aside0.mk (And.intro Q1_1.out.1 (Kd.C_below Q1_1.out.2 hb))
 replace Q2 := Aside0.mk (And.intro Q2.out.1 (Kd.C_below Q2.out.2 hb))
 have HK1 := Aside0.mk fun (W : World) (hA : Below w1.heap.size w1 W) => And.intro (HB1.out.trans (hA.mono HB1.out.size)) (And.intro (Nat.lt_of_lt_of_le z0 hA.size) (And.intro (kcell hA s0_0) (And.intro (kcell hA s0_1) (And.intro (kcell hA s0_2) (And.intro (Nat.lt_of_lt_of_le z1 hA.size) (And.intro (kcell hA s1_0) (And.intro (kcell hA s1_1) (And.intro (Aside0.mk (And.intro Q0_0.out.1 (Kd.C_below Q0_0.out.2 hA))) (And.intro (Aside0.mk (And.intro Q0_1.out.1 (Kd.C_below Q0_1.out.2 hA))) (And.intro (Aside0.mk (And.intro Q1_0.out.1 (Kd.C_below Q1_0.out.2 hA))) (And.intro (Aside0.mk (And.intro Q1_1.out.1 (Kd.C_below Q1_1.out.2 hA))) ((Aside0.mk (And.intro Q2.out.1 (Kd.C_below Q2.out.2 hA)))))))))))))))
 clear z0 s0_0 s0_1 s0_2 z1 s1_0 s1_1 Q0_0 Q0_1 Q1_0 Q1_1 Q2 hb
 obtain ⟨hB, z0, s0_0, s0_1, s0_2, z1, s1_0, s1_1, Q0_0, Q0_1, Q1_0, Q1_1, Q2⟩ := HK1.out _ (Below.refl _ _)
 go_wp2_with fail
 refine (laws_szChoice.calls A1_0 c1_0 l1_0 A1_1 c1_1 l1_1 u0_0 _ _ Q1_0.out.2 Q1_0.out.1 Q1_1.out.2 Q1_1.out.1 HF1.out).mono ?_
 rintro e w2 ⟨rfl, hb⟩
 have B2 := Aside0.mk hb; clear hB z0 s0_0 s0_1 s0_2 z1 s1_0 s1_1 Q0_0 Q0_1 Q1_0 Q1_1 Q2 hb
 have HK2 := Aside0.mk fun (W : World) (hA : Below w2.heap.size w2 W) => HK1.out W (B2.out.trans (hA.mono B2.out.size))
 obtain ⟨hB, z0, s0_0, s0_1, s0_2, z1, s1_0, s1_1, Q0_0, Q0_1, Q1_0, Q1_1, Q2⟩ := HK2.out _ (Below.refl _ _)
 go_wp2_with fail
 go_region_held3 (fun w' => Below w2.heap.size w2 w' ∧ w'.cell? ⟨w.heap.size, 0, none⟩ = some (.slice A0_0 l0_0.length c0_0) ∧ w'.cell? ⟨w.heap.size, 1, none⟩ = some (.slice A0_1 l0_1.length c0_1) ∧ w'.cell? ⟨w.heap.size, 2, none⟩ = some (.int .i64 a0_2) ∧ w'.cell? ⟨w.heap.size + 1, 0, none⟩ = some (.slice A1_0 l1_0.length c1_0) ∧ w'.cell? ⟨w.heap.size + 1, 1, none⟩ = some (.slice A1_1 l1_1.length c1_1))
  (first | (refine ⟨by repeat (first | (with_reducible first | exact Below.refl _ _ | apply below_alloc | apply pw_below_drewN | apply below_drew1 | exact (‹Below w2.heap.size w2 _ ∧ _› : Below w2.heap.size w2 _ ∧ _).1) | exact Below.refl _ _), ?_⟩; go_simp; done) | (have HQ_ := HK2.out _ (below_step (‹Below w2.heap.size w2 _ ∧ _› : Below w2.heap.size w2 _ ∧ _).1 hb); exact ⟨below_step (‹Below w2.heap.size w2 _ ∧ _› : Below w2.heap.size w2 _ ∧ _).1 hb, HQ_.2.2.1, HQ_.2.2.2.1, HQ_.2.2.2.2.1, HQ_.2.2.2.2.2.2.1, HQ_.2.2.2.2.2.2.2.1⟩))
  (first | (go_at_call 18; (refine (laws_toShow.c k A0_0 c0_0 l0_0 A0_1 c0_1 l0_1 a0_2 _ _ _ _ ?s3_0 ?s3_1 ?s3_2 ?s3_3 HF2.out).mono ?_); (case s3_0 => exact (HK2.out _ (‹Below w2.heap.size w2 _ ∧ _› : Below w2.heap.size w2 _ ∧ _).1).2.2.2.2.2.2.2.2.1.out.2); (case s3_1 => exact (HK2.out _ (‹Below w2.heap.size w2 _ ∧ _› : Below w2.heap.size w2 _ ∧ _).1).2.2.2.2.2.2.2.2.1.out.1); (case s3_2 => exact (HK2.out _ (‹Below w2.heap.size w2 _ ∧ _› : Below w2.heap.size w2 _ ∧ _).1).2.2.2.2.2.2.2.2.2.1.out.2); (case s3_3 => exact (HK2.out _ (‹Below w2.heap.size w2 _ ∧ _› : Below w2.heap.size w2 _ ∧ _).1).2.2.2.2.2.2.2.2.2.1.out.1); rintro e w3 ⟨X3_0, x3_0, X3_1, x3_1, rfl, g3_0, g3_1, hb⟩) | (go_at_call 19; (refine (laws_toChoice.c k A1_0 c1_0 l1_0 A1_1 c1_1 l1_1 _ _ _ ?s4_0 ?s4_1 ?s4_2 ?s4_3 HF3.out).mono ?_); (case s4_0 => exact (HK2.out _ (‹Below w2.heap.size w2 _ ∧ _› : Below w2.heap.size w2 _ ∧ _).1).2.2.2.2.2.2.2.2.2.2.1.out.2); (case s4_1 => exact (HK2.out _ (‹Below w2.heap.size w2 _ ∧ _› : Below w2.heap.size w2 _ ∧ _).1).2.2.2.2.2.2.2.2.2.2.1.out.1); (case s4_2 => exact (HK2.out _ (‹Below w2.heap.size w2 _ ∧ _› : Below w2.heap.size w2 _ ∧ _).1).2.2.2.2.2.2.2.2.2.2.2.1.out.2); (case s4_3 => exact (HK2.out _ (‹Below w2.heap.size w2 _ ∧ _› : Below w2.heap.size w2 _ ∧ _).1).2.2.2.2.2.2.2.2.2.2.2.1.out.1); rintro e w4 ⟨X4_0, x4_0, X4_1, x4_1, rfl, g4_0, g4_1, hb⟩; replace g3_0 := Aside0.mk (And.intro g3_0.out.1 (Kd.C_below g3_0.out.2 hb)); replace g3_1 := Aside0.mk (And.intro g3_1.out.1 (Kd.C_below g3_1.out.2 hb))) | (go_at_call 58; (refine (laws_toIntS.c k A2 c2 l2 _ _ ?s5_0 ?s5_1 HF4.out).mono ?_); (case s5_0 => exact (HK2.out _ (‹Below w2.heap.size w2 _ ∧ _› : Below w2.heap.size w2 _ ∧ _).1).2.2.2.2.2.2.2.2.2.2.2.2.out.2); (case s5_1 => exact (HK2.out _ (‹Below w2.heap.size w2 _ ∧ _› : Below w2.heap.size w2 _ ∧ _).1).2.2.2.2.2.2.2.2.2.2.2.2.out.1); rintro e w5 ⟨X5_0, x5_0, rfl, g5_0, hb⟩; replace g3_0 := Aside0.mk (And.intro g3_0.out.1 (Kd.C_below g3_0.out.2 hb)); replace g3_1 := Aside0.mk (And.intro g3_1.out.1 (Kd.C_below g3_1.out.2 hb)); replace g4_0 := Aside0.mk (And.intro g4_0.out.1 (Kd.C_below g4_0.out.2 hb)); replace g4_1 := Aside0.mk (And.intro g4_1.out.1 (Kd.C_below g4_1.out.2 hb))) | (go_at_call 57; (refine (spec_TimesFor.c k X3_0 x3_0 u2_0_0 X3_1 x3_1 u2_0_1 u2_0_2 X4_0 x4_0 u3_0_0 X4_1 x4_1 u3_0_1 X5_0 x5_0 u4_0 _ _ _ ?s6_0 ?s6_1 ?s6_2 ?s6_3 ?s6_4 ?s6_5 ?s6_6 ?s6_7 ?s6_8 ?s6_9 HF5.out).mono ?_); (case s6_0 => exact g3_0.out.2); (case s6_1 => exact g3_0.out.1); (case s6_2 => exact g3_1.out.2); (case s6_3 => exact g3_1.out.1); (case s6_4 => exact g4_0.out.2); (case s6_5 => exact g4_0.out.1); (case s6_6 => exact g4_1.out.2); (case s6_7 => exact g4_1.out.1); (case s6_8 => exact g5_0.out.2); (case s6_9 => exact g5_0.out.1); rintro e w6 ⟨X6_0, x6_0, rfl, g6_0, hb⟩; replace g3_0 := Aside0.mk (And.intro g3_0.out.1 (Kd.C_below g3_0.out.2 hb)); replace g3_1 := Aside0.mk (And.intro g3_1.out.1 (Kd.C_below g3_1.out.2 hb)); replace g4_0 := Aside0.mk (And.intro g4_0.out.1 (Kd.C_below g4_0.out.2 hb)); replace g4_1 := Aside0.mk (And.intro g4_1.out.1 (Kd.C_below g4_1.out.2 hb)); replace g5_0 := Aside0.mk (And.intro g5_0.out.1 (Kd.C_below g5_0.out.2 hb))))
 have B6 := Aside0.mk (‹Below w2.heap.size w2 w6 ∧ _› : Below w2.heap.size w2 w6 ∧ _).1
 clear hB z0 s0_0 s0_1 s0_2 z1 s1_0 s1_1 Q0_0 Q0_1 Q1_0 Q1_1 Q2
 have HK6 := Aside0.mk fun (W : World) (hA : Below w6.heap.size w6 W) => And.intro (HK2.out W (B6.out.trans (hA.mono B6.out.size))) ((Aside0.mk (And.intro g6_0.out.1 (Kd.C_below g6_0.out.2 hA))))
 clear g6_0
 obtain ⟨⟨hB, z0, s0_0, s0_1, s0_2, z1, s1_0, s1_1, Q0_0, Q0_1, Q1_0, Q1_1, Q2⟩, g6_0⟩ := HK6.out _ (Below.refl _ _)
 go_wp2_with fail
 refine (laws_toShow.o k A0_0 c0_0 l0_0 A0_1 c0_1 l0_1 a0_2 _ _ _ _ Q0_0.out.2 Q0_0.out.1 Q0_1.out.2 Q0_1.out.1 HF2.out).mono ?_
 rintro e w7 ⟨X7_0, x7_0, X7_1, x7_1, rfl, g7_0, g7_1, ow7, hb⟩
 have B7 := Aside0.mk hb
 replace ow7 := Aside0.mk (And.intro (Kd.S_lower (Kd.S_mono ow7.out.1 (fun k hk => And.intro hk.1 (And.intro (Nat.le_trans (Nat.le_refl _) hk.2.1) hk.2.2))) (Nat.le_refl _)) (Kd.R_lower (Kd.R_mono ow7.out.2 (fun k hk => And.intro hk.1 (And.intro (Nat.le_trans (Nat.le_refl _) hk.2.1) hk.2.2))) (Nat.le_refl _)))
 have sz7 := Nat.le_refl w7.heap.size
 have bE := B7.out
 clear hB z0 s0_0 s0_1 s0_2 z1 s1_0 s1_1 Q0_0 Q0_1 Q1_0 Q1_1 Q2 g6_0 hb
 have HK7 := Aside0.mk fun (W : World) (hA : Below w7.heap.size w7 W) => And.intro (HK6.out W (B7.out.trans (hA.mono B7.out.size))) (And.intro (Aside0.mk (And.intro (Kd.S_below ow7.out.1 hA) (Kd.R_below ow7.out.2 hA))) (And.intro (Nat.le_trans sz7 hA.size) (And.intro (bE.trans (hA.mono bE.size)) (And.intro (Aside0.mk (And.intro g7_0.out.1 (Kd.C_below g7_0.out.2 hA))) ((Aside0.mk (And.intro g7_1.out.1 (Kd.C_below g7_1.out.2 hA))))))))
 clear ow7 sz7 bE g7_0 g7_1
 obtain ⟨⟨⟨hB, z0, s0_0, s0_1, s0_2, z1, s1_0, s1_1, Q0_0, Q0_1, Q1_0, Q1_1, Q2⟩, g6_0⟩, ow7, sz7, bE, g7_0, g7_1⟩ := HK7.out _ (Below.refl _ _)
 go_wp2_with fail
 refine (laws_toChoice.o k A1_0 c1_0 l1_0 A1_1 c1_1 l1_1 _ _ _ (Kd.C_below Q1_0.out.2 (below_alloc (Below.refl _ _) _)) Q1_0.out.1 (Kd.C_below Q1_1.out.2 (below_alloc (Below.refl _ _) _)) Q1_1.out.1 HF3.out).mono ?_
 rintro e w8 ⟨X8_0, x8_0, X8_1, x8_1, rfl, g8_0, g8_1, ow8, hb⟩
 have B8 := Aside0.mk (below_step (below_alloc (Below.refl w7.heap.size w7) _) hb)
 replace ow8 := Aside0.mk (And.intro (Kd.R_lower (Kd.R_mono ow8.out.1 (fun k hk => And.intro hk.1 (And.intro (Nat.le_trans (below_alloc (Below.refl w7.heap.size w7) _).size hk.2.1) hk.2.2))) (Nat.le_trans bE.size (below_alloc (Below.refl w7.heap.size w7) _).size)) (Kd.R_lower (Kd.R_mono ow8.out.2 (fun k hk => And.intro hk.1 (And.intro (Nat.le_trans (below_alloc (Below.refl w7.heap.size w7) _).size hk.2.1) hk.2.2))) (Nat.le_trans bE.size (below_alloc (Below.refl w7.heap.size w7) _).size)))
 have sz8 := Nat.le_refl w8.heap.size
 have z2 : w7.heap.size < w8.heap.size := Nat.lt_of_lt_of_le (by simp <;> omega) hb.size
 have s2_0 : w8.cell? ⟨w7.heap.size, 0, none⟩ = some (.slice X7_0 u2_0_0.length x7_0) := kcell hb (by go_simp)
 have s2_1 : w8.cell? ⟨w7.heap.size, 1, none⟩ = some (.slice X7_1 u2_0_1.length x7_1) := kcell hb (by go_simp)
 have s2_2 : w8.cell? ⟨w7.heap.size, 2, none⟩ = some (.int .i64 u2_0_2) := kcell hb (by go_simp)
 clear hB z0 s0_0 s0_1 s0_2 z1 s1_0 s1_1 Q0_0 Q0_1 Q1_0 Q1_1 Q2 g6_0 ow7 sz7 bE g7_0 g7_1 hb
 have HK8 := Aside0.mk fun (W : World) (hA : Below w8.heap.size w8 W) => And.intro (HK7.out W (B8.out.trans (hA.mono B8.out.size))) (And.intro (Aside0.mk (And.intro (Kd.R_below ow8.out.1 hA) (Kd.R_below ow8.out.2 hA))) (And.intro (Nat.le_trans sz8 hA.size) (And.intro (Nat.lt_of_lt_of_le z2 hA.size) (And.intro (kcell hA s2_0) (And.intro (kcell hA s2_1) (And.intro (kcell hA s2_2) (And.intro (Aside0.mk (And.intro g8_0.out.1 (Kd.C_below g8_0.out.2 hA))) ((Aside0.mk (And.intro g8_1.out.1 (Kd.C_below g8_1.out.2 hA)))))))))))
 clear ow8 sz8 z2 s2_0 s2_1 s2_2 g8_0 g8_1
 obtain ⟨⟨⟨⟨hB, z0, s0_0, s0_1, s0_2, z1, s1_0, s1_1, Q0_0, Q0_1, Q1_0, Q1_1, Q2⟩, g6_0⟩, ow7, sz7, bE, g7_0, g7_1⟩, ow8, sz8, z2, s2_0, s2_1, s2_2, g8_0, g8_1⟩ := HK8.out _ (Below.refl _ _)
 have le7_8 := sz7
 go_wp2_with fail
 refine (laws_toIntS.o k A2 c2 l2 _ _ (Kd.C_below Q2.out.2 (below_alloc (Below.refl _ _) _)) Q2.out.1 HF4.out).mono ?_
 rintro e w9 ⟨X9_0, x9_0, rfl, g9_0, ow9, hb⟩
 have B9 := Aside0.mk (below_step (below_alloc (Below.refl w8.heap.size w8) _) hb)
 replace ow9 := Aside0.mk (Kd.R_lower (Kd.R_mono ow9.out (fun k hk => And.intro hk.1 (And.intro (Nat.le_trans (below_alloc (Below.refl w8.heap.size w8) _).size hk.2.1) hk.2.2))) (Nat.le_trans bE.size (below_alloc (Below.refl w8.heap.size w8) _).size))
 have sz9 := Nat.le_refl w9.heap.size
 have z3 : w8.heap.size < w9.heap.size := Nat.lt_of_lt_of_le (by simp <;> omega) hb.size
 have s3_0 : w9.cell? ⟨w8.heap.size, 0, none⟩ = some (.slice X8_0 u3_0_0.length x8_0) := kcell hb (by go_simp)
 have s3_1 : w9.cell? ⟨w8.heap.size, 1, none⟩ = some (.slice X8_1 u3_0_1.length x8_1) := kcell hb (by go_simp)
 clear hB z0 s0_0 s0_1 s0_2 z1 s1_0 s1_1 Q0_0 Q0_1 Q1_0 Q1_1 Q2 g6_0 ow7 sz7 bE g7_0 g7_1 ow8 sz8 z2 s2_0 s2_1 s2_2 g8_0 g8_1 hb
 have HK9 := Aside0.mk fun (W : World) (hA : Below w9.heap.size w9 W) => And.intro (HK8.out W (B9.out.trans (hA.mono B9.out.size))) (And.intro (Aside0.mk (Kd.R_below ow9.out hA)) (And.intro (Nat.le_trans sz9 hA.size) (And.intro (Nat.lt_of_lt_of_le z3 hA.size) (And.intro (kcell hA s3_0) (And.intro (kcell hA s3_1) ((Aside0.mk (And.intro g9_0.out.1 (Kd.C_below g9_0.out.2 hA)))))))))
 clear ow9 sz9 z3 s3_0 s3_1 g9_0
 obtain ⟨⟨⟨⟨⟨hB, z0, s0_0, s0_1, s0_2, z1, s1_0, s1_1, Q0_0, Q0_1, Q1_0, Q1_1, Q2⟩, g6_0⟩, ow7, sz7, bE, g7_0, g7_1⟩, ow8, sz8, z2, s2_0, s2_1, s2_2, g8_0, g8_1⟩, ow9, sz9, z3, s3_0, s3_1, g9_0⟩ := HK9.out _ (Below.refl _ _)
 have le7_9 := sz7
 have le8_9 := sz8
 go_wp2_with fail
 refine (impl_TimesFor.o k X7_0 x7_0 u2_0_0 X7_1 x7_1 u2_0_1 u2_0_2 X8_0 x8_0 u3_0_0 X8_1 x8_1 u3_0_1 X9_0 x9_0 u4_0 _ _ _ g7_0.out.2 g7_0.out.1 g7_1.out.2 g7_1.out.1 g8_0.out.2 g8_0.out.1 g8_1.out.2 g8_1.out.1 g9_0.out.2 g9_0.out.1 HF6.out).mono ?_
 rintro e w10 ⟨X10_0, x10_0, rfl, g10_0, ow10, hb⟩
 have B10 := Aside0.mk hb
 replace ow10 := Aside0.mk (Kd.R_lower (Kd.R_mono ow10.out (fun k hk => And.intro hk.1 (And.intro (Nat.le_trans (Nat.le_refl _) hk.2.1) hk.2.2))) (Nat.le_trans bE.size (Nat.le_refl _)))
 have sz10 := Nat.le_refl w10.heap.size
 clear hB z0 s0_0 s0_1 s0_2 z1 s1_0 s1_1 Q0_0 Q0_1 Q1_0 Q1_1 Q2 g6_0 ow7 sz7 bE g7_0 g7_1 ow8 sz8 z2 s2_0 s2_1 s2_2 g8_0 g8_1 ow9 sz9 z3 s3_0 s3_1 g9_0 hb
 have HK10 := Aside0.mk fun (W : World) (hA : Below w10.heap.size w10 W) => And.intro (HK9.out W (B10.out.trans (hA.mono B10.out.size))) (And.intro (Aside0.mk (Kd.R_below ow10.out hA)) (And.intro (Nat.le_trans sz10 hA.size) ((Aside0.mk (And.intro g10_0.out.1 (Kd.C_below g10_0.out.2 hA))))))
 clear ow10 sz10 g10_0
 obtain ⟨⟨⟨⟨⟨⟨hB, z0, s0_0, s0_1, s0_2, z1, s1_0, s1_1, Q0_0, Q0_1, Q1_0, Q1_1, Q2⟩, g6_0⟩, ow7, sz7, bE, g7_0, g7_1⟩, ow8, sz8, z2, s2_0, s2_1, s2_2, g8_0, g8_1⟩, ow9, sz9, z3, s3_0, s3_1, g9_0⟩, ow10, sz10, g10_0⟩ := HK10.out _ (Below.refl _ _)
 have le7_10 := sz7
 have le8_10 := sz8
 have le9_10 := sz9
 go_wp2_with fail
 refine (laws_eqIntS.calls (2 ^ 64) X10_0 x10_0 u6_0 X6_0 x6_0 u6_0 true _ g10_0.out.2 g10_0.out.1 g6_0.out.2 g6_0.out.1 (eqIntS_refl _ (g10_0.out.2.2).1 (2 ^ 64) (Nat.le_refl _))).mono ?_
 rintro e w11 ⟨rfl, hd⟩
 have hb := hd.below
 clear hd; have B11 := Aside0.mk hb; clear hB z0 s0_0 s0_1 s0_2 z1 s1_0 s1_1 Q0_0 Q0_1 Q1_0 Q1_1 Q2 g6_0 ow7 sz7 bE g7_0 g7_1 ow8 sz8 z2 s2_0 s2_1 s2_2 g8_0 g8_1 ow9 sz9 z3 s3_0 s3_1 g9_0 ow10 sz10 g10_0 hb
 have HK11 := Aside0.mk fun (W : World) (hA : Below w11.heap.size w11 W) => HK10.out W (B11.out.trans (hA.mono B11.out.size))
 obtain ⟨⟨⟨⟨⟨⟨hB, z0, s0_0, s0_1, s0_2, z1, s1_0, s1_1, Q0_0, Q0_1, Q1_0, Q1_1, Q2⟩, g6_0⟩, ow7, sz7, bE, g7_0, g7_1⟩, ow8, sz8, z2, s2_0, s2_1, s2_2, g8_0, g8_1⟩, ow9, sz9, z3, s3_0, s3_1, g9_0⟩, ow10, sz10, g10_0⟩ := HK11.out _ (Below.refl _ _)
 have le7_11 := sz7
 have le8_11 := sz8
 have le9_11 := sz9
 have le10_11 := sz10
 go_wp2_with fail
 go_region_held3 (fun w' => Below w11.heap.size w11 w' ∧ w'.cell? ⟨w7.heap.size, 0, none⟩ = some (.slice X7_0 u2_0_0.length x7_0) ∧ w'.cell? ⟨w7.heap.size, 1, none⟩ = some (.slice X7_1 u2_0_1.length x7_1) ∧ w'.cell? ⟨w7.heap.size, 2, none⟩ = some (.int .i64 u2_0_2) ∧ w'.cell? ⟨w.heap.size, 0, none⟩ = some (.slice A0_0 l0_0.length c0_0) ∧ w'.cell? ⟨w.heap.size, 1, none⟩ = some (.slice A0_1 l0_1.length c0_1) ∧ w'.cell? ⟨w.heap.size, 2, none⟩ = some (.int .i64 a0_2))
  (first | (refine ⟨by repeat (first | (with_reducible first | exact Below.refl _ _ | apply below_alloc | apply pw_below_drewN | apply below_drew1 | exact (‹Below w11.heap.size w11 _ ∧ _› : Below w11.heap.size w11 _ ∧ _).1) | exact Below.refl _ _), ?_⟩; go_simp; done) | (have HQ_ := HK11.out _ (below_step (‹Below w11.heap.size w11 _ ∧ _› : Below w11.heap.size w11 _ ∧ _).1 hb); exact ⟨below_step (‹Below w11.heap.size w11 _ ∧ _› : Below w11.heap.size w11 _ ∧ _).1 hb, HQ_.1.1.2.2.2.2.1, HQ_.1.1.2.2.2.2.2.1, HQ_.1.1.2.2.2.2.2.2.1, HQ_.1.1.1.1.1.2.2.1, HQ_.1.1.1.1.1.2.2.2.1, HQ_.1.1.1.1.1.2.2.2.2.1⟩))
  (first | (go_at_call 18; (refine (laws_toShow.c k A0_0 c0_0 l0_0 A0_1 c0_1 l0_1 a0_2 _ _ _ _ ?s12_0 ?s12_1 ?s12_2 ?s12_3 HF2.out).mono ?_); (case s12_0 => exact (HK11.out _ (‹Below w11.heap.size w11 _ ∧ _› : Below w11.heap.size w11 _ ∧ _).1).1.1.1.1.1.2.2.2.2.2.2.2.2.1.out.2); (case s12_1 => exact (HK11.out _ (‹Below w11.heap.size w11 _ ∧ _› : Below w11.heap.size w11 _ ∧ _).1).1.1.1.1.1.2.2.2.2.2.2.2.2.1.out.1); (case s12_2 => exact (HK11.out _ (‹Below w11.heap.size w11 _ ∧ _› : Below w11.heap.size w11 _ ∧ _).1).1.1.1.1.1.2.2.2.2.2.2.2.2.2.1.out.2); (case s12_3 => exact (HK11.out _ (‹Below w11.heap.size w11 _ ∧ _› : Below w11.heap.size w11 _ ∧ _).1).1.1.1.1.1.2.2.2.2.2.2.2.2.2.1.out.1); rintro e w12 ⟨X12_0, x12_0, X12_1, x12_1, rfl, g12_0, g12_1, hb⟩) | (go_at_call 21; (refine (laws_eqShow.same X7_0 x7_0 X12_0 x12_0 u2_0_0 X7_1 x7_1 X12_1 x12_1 u2_0_1 u2_0_2 _ ?s13_0 ?s13_1 ?s13_2 ?s13_3 ?s13_4 ?s13_5 ?s13_6 ?s13_7).mono ?_); (case s13_0 => exact (HK11.out _ (‹Below w11.heap.size w11 _ ∧ _› : Below w11.heap.size w11 _ ∧ _).1).1.1.1.2.2.2.2.1.out.2); (case s13_1 => exact (HK11.out _ (‹Below w11.heap.size w11 _ ∧ _› : Below w11.heap.size w11 _ ∧ _).1).1.1.1.2.2.2.2.1.out.1); (case s13_2 => exact g12_0.out.2); (case s13_3 => exact g12_0.out.1); (case s13_4 => exact (HK11.out _ (‹Below w11.heap.size w11 _ ∧ _› : Below w11.heap.size w11 _ ∧ _).1).1.1.1.2.2.2.2.2.out.2); (case s13_5 => exact (HK11.out _ (‹Below w11.heap.size w11 _ ∧ _› : Below w11.heap.size w11 _ ∧ _).1).1.1.1.2.2.2.2.2.out.1); (case s13_6 => exact g12_1.out.2); (case s13_7 => exact g12_1.out.1); rintro e w13 ⟨rfl, hb⟩; replace g12_0 := Aside0.mk (And.intro g12_0.out.1 (Kd.C_below g12_0.out.2 hb)); replace g12_1 := Aside0.mk (And.intro g12_1.out.1 (Kd.C_below g12_1.out.2 hb))))
 have B13 := Aside0.mk (‹Below w11.heap.size w11 w13 ∧ _› : Below w11.heap.size w11 w13 ∧ _).1
 clear hB z0 s0_0 s0_1 s0_2 z1 s1_0 s1_1 Q0_0 Q0_1 Q1_0 Q1_1 Q2 g6_0 ow7 sz7 bE g7_0 g7_1 ow8 sz8 z2 s2_0 s2_1 s2_2 g8_0 g8_1 ow9 sz9 z3 s3_0 s3_1 g9_0 ow10 sz10 g10_0
 have HK13 := Aside0.mk fun (W : World) (hA : Below w13.heap.size w13 W) => HK11.out W (B13.out.trans (hA.mono B13.out.size))
 obtain ⟨⟨⟨⟨⟨⟨hB, z0, s0_0, s0_1, s0_2, z1, s1_0, s1_1, Q0_0, Q0_1, Q1_0, Q1_1, Q2⟩, g6_0⟩, ow7, sz7, bE, g7_0, g7_1⟩, ow8, sz8, z2, s2_0, s2_1, s2_2, g8_0, g8_1⟩, ow9, sz9, z3, s3_0, s3_1, g9_0⟩, ow10, sz10, g10_0⟩ := HK13.out _ (Below.refl _ _)
 have le7_13 := sz7
 have le8_13 := sz8
 have le9_13 := sz9
 have le10_13 := sz10
 go_wp2_with fail
 go_region_held3 (fun w' => Below w13.heap.size w13 w' ∧ w'.cell? ⟨w8.heap.size, 0, none⟩ = some (.slice X8_0 u3_0_0.length x8_0) ∧ w'.cell? ⟨w8.heap.size, 1, none⟩ = some (.slice X8_1 u3_0_1.length x8_1) ∧ w'.cell? ⟨w.heap.size + 1, 0, none⟩ = some (.slice A1_0 l1_0.length c1_0) ∧ w'.cell? ⟨w.heap.size + 1, 1, none⟩ = some (.slice A1_1 l1_1.length c1_1))
  (first | (refine ⟨by repeat (first | (with_reducible first | exact Below.refl _ _ | apply below_alloc | apply pw_below_drewN | apply below_drew1 | exact (‹Below w13.heap.size w13 _ ∧ _› : Below w13.heap.size w13 _ ∧ _).1) | exact Below.refl _ _), ?_⟩; go_simp; done) | (have HQ_ := HK13.out _ (below_step (‹Below w13.heap.size w13 _ ∧ _› : Below w13.heap.size w13 _ ∧ _).1 hb); exact ⟨below_step (‹Below w13.heap.size w13 _ ∧ _› : Below w13.heap.size w13 _ ∧ _).1 hb, HQ_.1.2.2.2.2.1, HQ_.1.2.2.2.2.2.1, HQ_.1.1.1.1.1.2.2.2.2.2.2.1, HQ_.1.1.1.1.1.2.2.2.2.2.2.2.1⟩))
  (first | (go_at_call 19; (refine (laws_toChoice.c k A1_0 c1_0 l1_0 A1_1 c1_1 l1_1 _ _ _ ?s14_0 ?s14_1 ?s14_2 ?s14_3 HF3.out).mono ?_); (case s14_0 => exact (HK13.out _ (‹Below w13.heap.size w13 _ ∧ _› : Below w13.heap.size w13 _ ∧ _).1).1.1.1.1.1.2.2.2.2.2.2.2.2.2.2.1.out.2); (case s14_1 => exact (HK13.out _ (‹Below w13.heap.size w13 _ ∧ _› : Below w13.heap.size w13 _ ∧ _).1).1.1.1.1.1.2.2.2.2.2.2.2.2.2.2.1.out.1); (case s14_2 => exact (HK13.out _ (‹Below w13.heap.size w13 _ ∧ _› : Below w13.heap.size w13 _ ∧ _).1).1.1.1.1.1.2.2.2.2.2.2.2.2.2.2.2.1.out.2); (case s14_3 => exact (HK13.out _ (‹Below w13.heap.size w13 _ ∧ _› : Below w13.heap.size w13 _ ∧ _).1).1.1.1.1.1.2.2.2.2.2.2.2.2.2.2.2.1.out.1); rintro e w14 ⟨X14_0, x14_0, X14_1, x14_1, rfl, g14_0, g14_1, hb⟩) | (go_at_call 22; (refine (laws_eqChoice.same X8_0 x8_0 X14_0 x14_0 u3_0_0 X8_1 x8_1 X14_1 x14_1 u3_0_1 _ ?s15_0 ?s15_1 ?s15_2 ?s15_3 ?s15_4 ?s15_5 ?s15_6 ?s15_7).mono ?_); (case s15_0 => exact (HK13.out _ (‹Below w13.heap.size w13 _ ∧ _› : Below w13.heap.size w13 _ ∧ _).1).1.1.2.2.2.2.2.2.2.1.out.2); (case s15_1 => exact (HK13.out _ (‹Below w13.heap.size w13 _ ∧ _› : Below w13.heap.size w13 _ ∧ _).1).1.1.2.2.2.2.2.2.2.1.out.1); (case s15_2 => exact g14_0.out.2); (case s15_3 => exact g14_0.out.1); (case s15_4 => exact (HK13.out _ (‹Below w13.heap.size w13 _ ∧ _› : Below w13.heap.size w13 _ ∧ _).1).1.1.2.2.2.2.2.2.2.2.out.2); (case s15_5 => exact (HK13.out _ (‹Below w13.heap.size w13 _ ∧ _› : Below w13.heap.size w13 _ ∧ _).1).1.1.2.2.2.2.2.2.2.2.out.1); (case s15_6 => exact g14_1.out.2); (case s15_7 => exact g14_1.out.1); rintro e w15 ⟨rfl, hb⟩; replace g14_0 := Aside0.mk (And.intro g14_0.out.1 (Kd.C_below g14_0.out.2 hb)); replace g14_1 := Aside0.mk (And.intro g14_1.out.1 (Kd.C_below g14_1.out.2 hb))))
 have B15 := Aside0.mk (‹Below w13.heap.size w13 w15 ∧ _› : Below w13.heap.size w13 w15 ∧ _).1
 clear hB z0 s0_0 s0_1 s0_2 z1 s1_0 s1_1 Q0_0 Q0_1 Q1_0 Q1_1 Q2 g6_0 ow7 sz7 bE g7_0 g7_1 ow8 sz8 z2 s2_0 s2_1 s2_2 g8_0 g8_1 ow9 sz9 z3 s3_0 s3_1 g9_0 ow10 sz10 g10_0
 have HK15 := Aside0.mk fun (W : World) (hA : Below w15.heap.size w15 W) => HK13.out W (B15.out.trans (hA.mono B15.out.size))
 obtain ⟨⟨⟨⟨⟨⟨hB, z0, s0_0, s0_1, s0_2, z1, s1_0, s1_1, Q0_0, Q0_1, Q1_0, Q1_1, Q2⟩, g6_0⟩, ow7, sz7, bE, g7_0, g7_1⟩, ow8, sz8, z2, s2_0, s2_1, s2_2, g8_0, g8_1⟩, ow9, sz9, z3, s3_0, s3_1, g9_0⟩, ow10, sz10, g10_0⟩ := HK15.out _ (Below.refl _ _)
 have le7_15 := sz7
 have le8_15 := sz8
 have le9_15 := sz9
 have le10_15 := sz10
 go_wp2_with fail
 refine (laws_toIntS.c k A2 c2 l2 _ _ Q2.out.2 Q2.out.1 HF4.out).mono ?_
 rintro e w16 ⟨X16_0, x16_0, rfl, g16_0, hb⟩
 have B16 := Aside0.mk hb; clear hB z0 s0_0 s0_1 s0_2 z1 s1_0 s1_1 Q0_0 Q0_1 Q1_0 Q1_1 Q2 g6_0 ow7 sz7 bE g7_0 g7_1 ow8 sz8 z2 s2_0 s2_1 s2_2 g8_0 g8_1 ow9 sz9 z3 s3_0 s3_1 g9_0 ow10 sz10 g10_0 hb
 have HK16 := Aside0.mk fun (W : World) (hA : Below w16.heap.size w16 W) => And.intro (HK15.out W (B16.out.trans (hA.mono B16.out.size))) ((Aside0.mk (And.intro g16_0.out.1 (Kd.C_below g16_0.out.2 hA))))
 clear g16_0
 obtain ⟨⟨⟨⟨⟨⟨⟨hB, z0, s0_0, s0_1, s0_2, z1, s1_0, s1_1, Q0_0, Q0_1, Q1_0, Q1_1, Q2⟩, g6_0⟩, ow7, sz7, bE, g7_0, g7_1⟩, ow8, sz8, z2, s2_0, s2_1, s2_2, g8_0, g8_1⟩, ow9, sz9, z3, s3_0, s3_1, g9_0⟩, ow10, sz10, g10_0⟩, g16_0⟩ := HK16.out _ (Below.refl _ _)
 have le7_16 := sz7
 have le8_16 := sz8
 have le9_16 := sz9
 have le10_16 := sz10
 go_wp2_with fail
 refine (laws_eqIntS.calls (2 ^ 64) X9_0 x9_0 u4_0 X16_0 x16_0 u4_0 true _ g9_0.out.2 g9_0.out.1 g16_0.out.2 g16_0.out.1 (eqIntS_refl _ (g9_0.out.2.2).1 (2 ^ 64) (Nat.le_refl _))).mono ?_
 rintro e w17 ⟨rfl, hd⟩
 have hb := hd.below
 clear hd; have B17 := Aside0.mk hb; clear hB z0 s0_0 s0_1 s0_2 z1 s1_0 s1_1 Q0_0 Q0_1 Q1_0 Q1_1 Q2 g6_0 ow7 sz7 bE g7_0 g7_1 ow8 sz8 z2 s2_0 s2_1 s2_2 g8_0 g8_1 ow9 sz9 z3 s3_0 s3_1 g9_0 ow10 sz10 g10_0 g16_0 hb
 have HK17 := Aside0.mk fun (W : World) (hA : Below w17.heap.size w17 W) => HK16.out W (B17.out.trans (hA.mono B17.out.size))
 obtain ⟨⟨⟨⟨⟨⟨⟨hB, z0, s0_0, s0_1, s0_2, z1, s1_0, s1_1, Q0_0, Q0_1, Q1_0, Q1_1, Q2⟩, g6_0⟩, ow7, sz7, bE, g7_0, g7_1⟩, ow8, sz8, z2, s2_0, s2_1, s2_2, g8_0, g8_1⟩, ow9, sz9, z3, s3_0, s3_1, g9_0⟩, ow10, sz10, g10_0⟩, g16_0⟩ := HK17.out _ (Below.refl _ _)
 have le7_17 := sz7
 have le8_17 := sz8
 have le9_17 := sz9
 have le10_17 := sz10
 go_wp2_with fail
 refine (markShow_k w6 _ _ _ _ _ _ _ bE (Kd.S_mono ow7.out.1 (fun k hk => hk.2.2)) (Kd.R_mono ow7.out.2 (fun k hk => hk.2.2)) SM_u2_0_0.out.1 SM_u2_0_0.out.2.1 SM_u2_0_0.out.2.2 _ (by omega) (by omega)).mono ?_
 rintro e w18 ⟨kx18, rfl, HR18, hb, hk⟩
 have hqkx18 := (decide_eq_false (by have := HR18.out; omega) : decide (kx18 < 0) = false)
 have B18 := Aside0.mk hb
 replace sz7 := Nat.le_trans sz7 hk.1
 replace bE := hb
 replace ow8 := Aside0.mk (And.intro (Kd.R_kept ow8.out.1 hk (fun k h2 h3 => absurd (Nat.lt_of_lt_of_le h3 (Nat.le_trans (Nat.le_refl _) h2.2.1)) (Nat.lt_irrefl _))) (Kd.R_kept ow8.out.2 hk (fun k h2 h3 => absurd (Nat.lt_of_lt_of_le h3 (Nat.le_trans (Nat.le_refl _) h2.2.1)) (Nat.lt_irrefl _))))
 replace sz8 := Nat.le_trans sz8 hk.1
 replace z2 := Nat.lt_of_lt_of_le z2 hk.1
 replace s2_0 := cell_kept s2_0 hk (fun h3 => absurd (Nat.lt_of_lt_of_le h3 (Nat.le_refl _)) (Nat.lt_irrefl _))
 replace s2_1 := cell_kept s2_1 hk (fun h3 => absurd (Nat.lt_of_lt_of_le h3 (Nat.le_refl _)) (Nat.lt_irrefl _))
 replace s2_2 := cell_kept s2_2 hk (fun h3 => absurd (Nat.lt_of_lt_of_le h3 (Nat.le_refl _)) (Nat.lt_irrefl _))
 replace g8_0 := Aside0.mk (And.intro g8_0.out.1 (Kd.R_reads' ow8.out.1).2.2)
 replace g8_1 := Aside0.mk (And.intro g8_1.out.1 (Kd.R_reads' ow8.out.2).2.2)
 replace ow9 := Aside0.mk (Kd.R_kept ow9.out hk (fun k h2 h3 => absurd (Nat.lt_of_lt_of_le h3 (Nat.le_trans le7_8 h2.2.1)) (Nat.lt_irrefl _)))
 replace sz9 := Nat.le_trans sz9 hk.1
 replace z3 := Nat.lt_of_lt_of_le z3 hk.1
 replace s3_0 := cell_kept s3_0 hk (fun h3 => absurd (Nat.lt_of_lt_of_le h3 le7_8) (Nat.lt_irrefl _))
 replace s3_1 := cell_kept s3_1 hk (fun h3 => absurd (Nat.lt_of_lt_of_le h3 le7_8) (Nat.lt_irrefl _))
 replace g9_0 := Aside0.mk (And.intro g9_0.out.1 (Kd.R_reads' ow9.out).2.2)
 replace ow10 := Aside0.mk (Kd.R_kept ow10.out hk (fun k h2 h3 => absurd (Nat.lt_of_lt_of_le h3 (Nat.le_trans le7_9 h2.2.1)) (Nat.lt_irrefl _)))
 replace sz10 := Nat.le_trans sz10 hk.1
 replace g10_0 := Aside0.mk (And.intro g10_0.out.1 (Kd.R_reads' ow10.out).2.2)
 clear hB z0 s0_0 s0_1 s0_2 z1 s1_0 s1_1 Q0_0 Q0_1 Q1_0 Q1_1 Q2 g6_0 ow7 g7_0 g7_1 g16_0 hk
 have HK18 := Aside0.mk fun (W : World) (hA : Below w18.heap.size w18 W) => And.intro (HK6.out W (B18.out.trans (hA.mono B18.out.size))) (And.intro (Nat.le_trans sz7 hA.size) (And.intro (bE.trans (hA.mono bE.size)) (And.intro (Aside0.mk (And.intro (Kd.R_below ow8.out.1 hA) (Kd.R_below ow8.out.2 hA))) (And.intro (Nat.le_trans sz8 hA.size) (And.intro (Nat.lt_of_lt_of_le z2 hA.size) (And.intro (kcell hA s2_0) (And.intro (kcell hA s2_1) (And.intro (kcell hA s2_2) (And.intro (Aside0.mk (And.intro g8_0.out.1 (Kd.C_below g8_0.out.2 hA))) (And.intro (Aside0.mk (And.intro g8_1.out.1 (Kd.C_below g8_1.out.2 hA))) (And.intro (Aside0.mk (Kd.R_below ow9.out hA)) (And.intro (Nat.le_trans sz9 hA.size) (And.intro (Nat.lt_of_lt_of_le z3 hA.size) (And.intro (kcell hA s3_0) (And.intro (kcell hA s3_1) (And.intro (Aside0.mk (And.intro g9_0.out.1 (Kd.C_below g9_0.out.2 hA))) (And.intro (Aside0.mk (Kd.R_below ow10.out hA)) (And.intro (Nat.le_trans sz10 hA.size) ((Aside0.mk (And.intro g10_0.out.1 (Kd.C_below g10_0.out.2 hA))))))))))))))))))))))
 clear sz7 bE ow8 sz8 z2 s2_0 s2_1 s2_2 g8_0 g8_1 ow9 sz9 z3 s3_0 s3_1 g9_0 ow10 sz10 g10_0
 obtain ⟨⟨⟨hB, z0, s0_0, s0_1, s0_2, z1, s1_0, s1_1, Q0_0, Q0_1, Q1_0, Q1_1, Q2⟩, g6_0⟩, sz7, bE, ow8, sz8, z2, s2_0, s2_1, s2_2, g8_0, g8_1, ow9, sz9, z3, s3_0, s3_1, g9_0, ow10, sz10, g10_0⟩ := HK18.out _ (Below.refl _ _)
 have le7_18 := sz7
 have le8_18 := sz8
 have le9_18 := sz9
 have le10_18 := sz10
 go_wp2_with fail
 refine (markChoice_k w6 _ _ _ _ _ _ bE (Kd.R_mono ow8.out.1 (fun k hk => And.intro hk.1 hk.2.2)) (Kd.R_mono ow8.out.2 (fun k hk => And.intro hk.1 hk.2.2)) SM_u3_0_0.out SM_u3_0_1.out _ (by have := HR18.out; have := SM_u3_0_0.out; have := SM_u3_0_1.out; omega) (by have := HR18.out; have := SM_u3_0_0.out; have := SM_u3_0_1.out; omega)).mono ?_
 rintro e w19 ⟨rfl, hm0, hm1, hb, hk⟩
 have hqw19 := (decide_eq_false (by have := HR18.out; have := SM_u3_0_0.out; have := SM_u3_0_1.out; omega) : decide (((kx18 + (u3_0_0.length : Int)) + (u3_0_1.length : Int)) < 0) = false)
 have B19 := Aside0.mk hb
 replace sz7 := Nat.le_trans sz7 hk.1
 replace bE := hb
 replace sz8 := Nat.le_trans sz8 hk.1
 replace ow9 := Aside0.mk (Kd.R_kept ow9.out hk (fun k h2 h3 => absurd (Nat.lt_of_lt_of_le h3 (Nat.le_trans (Nat.le_refl _) h2.2.1)) (Nat.lt_irrefl _)))
 replace sz9 := Nat.le_trans sz9 hk.1
 replace z3 := Nat.lt_of_lt_of_le z3 hk.1
 replace s3_0 := cell_kept s3_0 hk (fun h3 => absurd (Nat.lt_of_lt_of_le h3 (Nat.le_refl _)) (Nat.lt_irrefl _))
 replace s3_1 := cell_kept s3_1 hk (fun h3 => absurd (Nat.lt_of_lt_of_le h3 (Nat.le_refl _)) (Nat.lt_irrefl _))
 replace g9_0 := Aside0.mk (And.intro g9_0.out.1 (Kd.R_reads' ow9.out).2.2)
 replace ow10 := Aside0.mk (Kd.R_kept ow10.out hk (fun k h2 h3 => absurd (Nat.lt_of_lt_of_le h3 (Nat.le_trans le8_9 h2.2.1)) (Nat.lt_irrefl _)))
 replace sz10 := Nat.le_trans sz10 hk.1
 replace g10_0 := Aside0.mk (And.intro g10_0.out.1 (Kd.R_reads' ow10.out).2.2)
 clear hB z0 s0_0 s0_1 s0_2 z1 s1_0 s1_1 Q0_0 Q0_1 Q1_0 Q1_1 Q2 g6_0 ow8 z2 s2_0 s2_1 s2_2 g8_0 g8_1 hk
 have HK19 := Aside0.mk fun (W : World) (hA : Below w19.heap.size w19 W) => And.intro (HK6.out W (B19.out.trans (hA.mono B19.out.size))) (And.intro (Nat.le_trans sz7 hA.size) (And.intro (bE.trans (hA.mono bE.size)) (And.intro (Nat.le_trans sz8 hA.size) (And.intro (Aside0.mk (Kd.R_below ow9.out hA)) (And.intro (Nat.le_trans sz9 hA.size) (And.intro (Nat.lt_of_lt_of_le z3 hA.size) (And.intro (kcell hA s3_0) (And.intro (kcell hA s3_1) (And.intro (Aside0.mk (And.intro g9_0.out.1 (Kd.C_below g9_0.out.2 hA))) (And.intro (Aside0.mk (Kd.R_below ow10.out hA)) (And.intro (Nat.le_trans sz10 hA.size) ((Aside0.mk (And.intro g10_0.out.1 (Kd.C_below g10_0.out.2 hA)))))))))))))))
 clear sz7 bE sz8 ow9 sz9 z3 s3_0 s3_1 g9_0 ow10 sz10 g10_0 hm0 hm1
 obtain ⟨⟨⟨hB, z0, s0_0, s0_1, s0_2, z1, s1_0, s1_1, Q0_0, Q0_1, Q1_0, Q1_1, Q2⟩, g6_0⟩, sz7, bE, sz8, ow9, sz9, z3, s3_0, s3_1, g9_0, ow10, sz10, g10_0⟩ := HK19.out _ (Below.refl _ _)
 have le7_19 := sz7
 have le8_19 := sz8
 have le9_19 := sz9
 have le10_19 := sz10
 go_wp2_with fail
 refine (markIntS_k w6 _ _ _ _ bE (Kd.R_mono ow9.out (fun k hk => hk.2.2)) SM_u4_0.out _ (by have := HR18.out; have := SM_u3_0_0.out; have := SM_u3_0_1.out; have := SM_u4_0.out; omega) (by have := HR18.out; have := SM_u3_0_0.out; have := SM_u3_0_1.out; have := SM_u4_0.out; omega)).mono ?_
 rintro e w20 ⟨rfl, hm0, hb, hk⟩
 have hqw20 := (decide_eq_false (by have := HR18.out; have := SM_u3_0_0.out; have := SM_u3_0_1.out; have := SM_u4_0.out; omega) : decide ((((kx18 + (u3_0_0.length : Int)) + (u3_0_1.length : Int)) + (u4_0.length : Int)) < 0) = false)
 have B20 := Aside0.mk hb
 replace sz7 := Nat.le_trans sz7 hk.1
 replace bE := hb
 replace sz8 := Nat.le_trans sz8 hk.1
 replace sz9 := Nat.le_trans sz9 hk.1
 replace ow10 := Aside0.mk (Kd.R_kept ow10.out hk (fun k h2 h3 => absurd (Nat.lt_of_lt_of_le h3 (Nat.le_trans (Nat.le_refl _) h2.2.1)) (Nat.lt_irrefl _)))
 replace sz10 := Nat.le_trans sz10 hk.1
 replace g10_0 := Aside0.mk (And.intro g10_0.out.1 (Kd.R_reads' ow10.out).2.2)
 clear hB z0 s0_0 s0_1 s0_2 z1 s1_0 s1_1 Q0_0 Q0_1 Q1_0 Q1_1 Q2 g6_0 ow9 z3 s3_0 s3_1 g9_0 hk
 have HK20 := Aside0.mk fun (W : World) (hA : Below w20.heap.size w20 W) => And.intro (HK6.out W (B20.out.trans (hA.mono B20.out.size))) (And.intro (Nat.le_trans sz7 hA.size) (And.intro (bE.trans (hA.mono bE.size)) (And.intro (Nat.le_trans sz8 hA.size) (And.intro (Nat.le_trans sz9 hA.size) (And.intro (Aside0.mk (Kd.R_below ow10.out hA)) (And.intro (Nat.le_trans sz10 hA.size) ((Aside0.mk (And.intro g10_0.out.1 (Kd.C_below g10_0.out.2 hA))))))))))
 clear sz7 bE sz8 sz9 ow10 sz10 g10_0 hm0
 obtain ⟨⟨⟨hB, z0, s0_0, s0_1, s0_2, z1, s1_0, s1_1, Q0_0, Q0_1, Q1_0, Q1_1, Q2⟩, g6_0⟩, sz7, bE, sz8, sz9, ow10, sz10, g10_0⟩ := HK20.out _ (Below.refl _ _)
 have le7_20 := sz7
 have le8_20 := sz8
 have le9_20 := sz9
 have le10_20 := sz10
 go_wp2_with fail
 refine (laws_eqIntS.calls (2 ^ 64) X10_0 x10_0 u6_0 X6_0 x6_0 u6_0 true _ g10_0.out.2 g10_0.out.1 g6_0.out.2 g6_0.out.1 (eqIntS_refl _ (g10_0.out.2.2).1 (2 ^ 64) (Nat.le_refl _))).mono ?_
 rintro e w21 ⟨rfl, hd⟩
 have hb := hd.below
 clear hd; have B21 := Aside0.mk hb; clear hB z0 s0_0 s0_1 s0_2 z1 s1_0 s1_1 Q0_0 Q0_1 Q1_0 Q1_1 Q2 g6_0 sz7 bE sz8 sz9 ow10 sz10 g10_0 hb
 have HK21 := Aside0.mk fun (W : World) (hA : Below w21.heap.size w21 W) => HK20.out W (B21.out.trans (hA.mono B21.out.size))
 obtain ⟨⟨⟨hB, z0, s0_0, s0_1, s0_2, z1, s1_0, s1_1, Q0_0, Q0_1, Q1_0, Q1_1, Q2⟩, g6_0⟩, sz7, bE, sz8, sz9, ow10, sz10, g10_0⟩ := HK21.out _ (Below.refl _ _)
 have le7_21 := sz7
 have le8_21 := sz8
 have le9_21 := sz9
 have le10_21 := sz10
 go_wp2_with fail
 refine (markIntS_k w6 _ _ _ _ bE (Kd.R_mono ow10.out (fun k hk => hk.2.2)) SM_u6_0.out _ (by have := HR18.out; have := SM_u3_0_0.out; have := SM_u3_0_1.out; have := SM_u4_0.out; have := SM_u6_0.out; omega) (by have := HR18.out; have := SM_u3_0_0.out; have := SM_u3_0_1.out; have := SM_u4_0.out; have := SM_u6_0.out; omega)).mono ?_
 rintro e w22 ⟨rfl, hm0, hb, hk⟩
 have hqw22 := (decide_eq_false (by have := HR18.out; have := SM_u3_0_0.out; have := SM_u3_0_1.out; have := SM_u4_0.out; have := SM_u6_0.out; omega) : decide ((1 + (u6_0.length : Int)) < 0) = false)
 have B22 := Aside0.mk hb
 replace sz7 := Nat.le_trans sz7 hk.1
 replace bE := hb
 replace sz8 := Nat.le_trans sz8 hk.1
 replace sz9 := Nat.le_trans sz9 hk.1
 replace ow10 := Aside0.mk hm0
 replace sz10 := Nat.le_trans sz10 hk.1
 replace g10_0 := Aside0.mk (marked_reads hm0)
 clear hB z0 s0_0 s0_1 s0_2 z1 s1_0 s1_1 Q0_0 Q0_1 Q1_0 Q1_1 Q2 g6_0 hk
 have HK22 := Aside0.mk fun (W : World) (hA : Below w22.heap.size w22 W) => And.intro (HK6.out W (B22.out.trans (hA.mono B22.out.size))) (And.intro (Nat.le_trans sz7 hA.size) (And.intro (bE.trans (hA.mono bE.size)) (And.intro (Nat.le_trans sz8 hA.size) (And.intro (Nat.le_trans sz9 hA.size) (And.intro (Aside0.mk (Kd.R_below ow10.out hA)) (And.intro (Nat.le_trans sz10 hA.size) ((Aside0.mk (And.intro g10_0.out.1 (Kd.C_below g10_0.out.2 hA))))))))))
 clear sz7 bE sz8 sz9 ow10 sz10 g10_0 hm0
 obtain ⟨⟨⟨hB, z0, s0_0, s0_1, s0_2, z1, s1_0, s1_1, Q0_0, Q0_1, Q1_0, Q1_1, Q2⟩, g6_0⟩, sz7, bE, sz8, sz9, ow10, sz10, g10_0⟩ := HK22.out _ (Below.refl _ _)
 have le7_22 := sz7
 have le8_22 := sz8
 have le9_22 := sz9
 have le10_22 := sz10
 go_wp2_with fail
 refine (heldIntS_k _ _ _ _ _ g10_0.out.2 g10_0.out.1 SM_u6_0.out (by have := SM_u6_0.out; omega) (by have := SM_u6_0.out; omega)).mono ?_
 rintro e w23 ⟨rfl, hb⟩
 have B23 := Aside0.mk hb; clear hB z0 s0_0 s0_1 s0_2 z1 s1_0 s1_1 Q0_0 Q0_1 Q1_0 Q1_1 Q2 g6_0 sz7 bE sz8 sz9 ow10 sz10 g10_0 hb
 have HK23 := Aside0.mk fun (W : World) (hA : Below w23.heap.size w23 W) => HK22.out W (B23.out.trans (hA.mono B23.out.size))
 obtain ⟨⟨⟨hB, z0, s0_0, s0_1, s0_2, z1, s1_0, s1_1, Q0_0, Q0_1, Q1_0, Q1_1, Q2⟩, g6_0⟩, sz7, bE, sz8, sz9, ow10, sz10, g10_0⟩ := HK23.out _ (Below.refl _ _)
 have le7_23 := sz7
 have le8_23 := sz8
 have le9_23 := sz9
 have le10_23 := sz10
 go_wp2_with fail
 go_region_held3 (fun w' => Below w23.heap.size w23 w' ∧ w'.cell? ⟨w.heap.size, 0, none⟩ = some (.slice A0_0 l0_0.length c0_0) ∧ w'.cell? ⟨w.heap.size, 1, none⟩ = some (.slice A0_1 l0_1.length c0_1) ∧ w'.cell? ⟨w.heap.size, 2, none⟩ = some (.int .i64 a0_2) ∧ w'.cell? ⟨w.heap.size + 1, 0, none⟩ = some (.slice A1_0 l1_0.length c1_0) ∧ w'.cell? ⟨w.heap.size + 1, 1, none⟩ = some (.slice A1_1 l1_1.length c1_1))
  (first | (refine ⟨by repeat (first | (with_reducible first | exact Below.refl _ _ | apply below_alloc | apply pw_below_drewN | apply below_drew1 | exact (‹Below w23.heap.size w23 _ ∧ _› : Below w23.heap.size w23 _ ∧ _).1) | exact Below.refl _ _), ?_⟩; go_simp; done) | (have HQ_ := HK23.out _ (below_step (‹Below w23.heap.size w23 _ ∧ _› : Below w23.heap.size w23 _ ∧ _).1 hb); exact ⟨below_step (‹Below w23.heap.size w23 _ ∧ _› : Below w23.heap.size w23 _ ∧ _).1 hb, HQ_.1.1.2.2.1, HQ_.1.1.2.2.2.1, HQ_.1.1.2.2.2.2.1, HQ_.1.1.2.2.2.2.2.2.1, HQ_.1.1.2.2.2.2.2.2.2.1⟩))
  (first | (go_at_call 18; (refine (laws_toShow.c k A0_0 c0_0 l0_0 A0_1 c0_1 l0_1 a0_2 _ _ _ _ ?s24_0 ?s24_1 ?s24_2 ?s24_3 HF2.out).mono ?_); (case s24_0 => exact (HK23.out _ (‹Below w23.heap.size w23 _ ∧ _› : Below w23.heap.size w23 _ ∧ _).1).1.1.2.2.2.2.2.2.2.2.1.out.2); (case s24_1 => exact (HK23.out _ (‹Below w23.heap.size w23 _ ∧ _› : Below w23.heap.size w23 _ ∧ _).1).1.1.2.2.2.2.2.2.2.2.1.out.1); (case s24_2 => exact (HK23.out _ (‹Below w23.heap.size w23 _ ∧ _› : Below w23.heap.size w23 _ ∧ _).1).1.1.2.2.2.2.2.2.2.2.2.1.out.2); (case s24_3 => exact (HK23.out _ (‹Below w23.heap.size w23 _ ∧ _› : Below w23.heap.size w23 _ ∧ _).1).1.1.2.2.2.2.2.2.2.2.2.1.out.1); rintro e w24 ⟨X24_0, x24_0, X24_1, x24_1, rfl, g24_0, g24_1, hb⟩) | (go_at_call 19; (refine (laws_toChoice.c k A1_0 c1_0 l1_0 A1_1 c1_1 l1_1 _ _ _ ?s25_0 ?s25_1 ?s25_2 ?s25_3 HF3.out).mono ?_); (case s25_0 => exact (HK23.out _ (‹Below w23.heap.size w23 _ ∧ _› : Below w23.heap.size w23 _ ∧ _).1).1.1.2.2.2.2.2.2.2.2.2.2.1.out.2); (case s25_1 => exact (HK23.out _ (‹Below w23.heap.size w23 _ ∧ _› : Below w23.heap.size w23 _ ∧ _).1).1.1.2.2.2.2.2.2.2.2.2.2.1.out.1); (case s25_2 => exact (HK23.out _ (‹Below w23.heap.size w23 _ ∧ _› : Below w23.heap.size w23 _ ∧ _).1).1.1.2.2.2.2.2.2.2.2.2.2.2.1.out.2); (case s25_3 => exact (HK23.out _ (‹Below w23.heap.size w23 _ ∧ _› : Below w23.heap.size w23 _ ∧ _).1).1.1.2.2.2.2.2.2.2.2.2.2.2.1.out.1); rintro e w25 ⟨X25_0, x25_0, X25_1, x25_1, rfl, g25_0, g25_1, hb⟩; replace g24_0 := Aside0.mk (And.intro g24_0.out.1 (Kd.C_below g24_0.out.2 hb)); replace g24_1 := Aside0.mk (And.intro g24_1.out.1 (Kd.C_below g24_1.out.2 hb))) | (go_at_call 58; (refine (laws_toIntS.c k A2 c2 l2 _ _ ?s26_0 ?s26_1 HF4.out).mono ?_); (case s26_0 => exact (HK23.out _ (‹Below w23.heap.size w23 _ ∧ _› : Below w23.heap.size w23 _ ∧ _).1).1.1.2.2.2.2.2.2.2.2.2.2.2.2.out.2); (case s26_1 => exact (HK23.out _ (‹Below w23.heap.size w23 _ ∧ _› : Below w23.heap.size w23 _ ∧ _).1).1.1.2.2.2.2.2.2.2.2.2.2.2.2.out.1); rintro e w26 ⟨X26_0, x26_0, rfl, g26_0, hb⟩; replace g24_0 := Aside0.mk (And.intro g24_0.out.1 (Kd.C_below g24_0.out.2 hb)); replace g24_1 := Aside0.mk (And.intro g24_1.out.1 (Kd.C_below g24_1.out.2 hb)); replace g25_0 := Aside0.mk (And.intro g25_0.out.1 (Kd.C_below g25_0.out.2 hb)); replace g25_1 := Aside0.mk (And.intro g25_1.out.1 (Kd.C_below g25_1.out.2 hb))) | (go_at_call 34; (refine (impl_TimesFor.c k X24_0 x24_0 u2_0_0 X24_1 x24_1 u2_0_1 u2_0_2 X25_0 x25_0 u3_0_0 X25_1 x25_1 u3_0_1 X26_0 x26_0 u4_0 _ _ _ ?s27_0 ?s27_1 ?s27_2 ?s27_3 ?s27_4 ?s27_5 ?s27_6 ?s27_7 ?s27_8 ?s27_9 HF6.out).mono ?_); (case s27_0 => exact g24_0.out.2); (case s27_1 => exact g24_0.out.1); (case s27_2 => exact g24_1.out.2); (case s27_3 => exact g24_1.out.1); (case s27_4 => exact g25_0.out.2); (case s27_5 => exact g25_0.out.1); (case s27_6 => exact g25_1.out.2); (case s27_7 => exact g25_1.out.1); (case s27_8 => exact g26_0.out.2); (case s27_9 => exact g26_0.out.1); rintro e w27 ⟨X27_0, x27_0, rfl, g27_0, hb⟩; replace g24_0 := Aside0.mk (And.intro g24_0.out.1 (Kd.C_below g24_0.out.2 hb)); replace g24_1 := Aside0.mk (And.intro g24_1.out.1 (Kd.C_below g24_1.out.2 hb)); replace g25_0 := Aside0.mk (And.intro g25_0.out.1 (Kd.C_below g25_0.out.2 hb)); replace g25_1 := Aside0.mk (And.intro g25_1.out.1 (Kd.C_below g25_1.out.2 hb)); replace g26_0 := Aside0.mk (And.intro g26_0.out.1 (Kd.C_below g26_0.out.2 hb))))
 have B27 := Aside0.mk (‹Below w23.heap.size w23 w27 ∧ _› : Below w23.heap.size w23 w27 ∧ _).1
 clear hB z0 s0_0 s0_1 s0_2 z1 s1_0 s1_1 Q0_0 Q0_1 Q1_0 Q1_1 Q2 g6_0 sz7 bE sz8 sz9 ow10 sz10 g10_0
 have HK27 := Aside0.mk fun (W : World) (hA : Below w27.heap.size w27 W) => And.intro (HK23.out W (B27.out.trans (hA.mono B27.out.size))) ((Aside0.mk (And.intro g27_0.out.1 (Kd.C_below g27_0.out.2 hA))))
 clear g27_0
 obtain ⟨⟨⟨⟨hB, z0, s0_0, s0_1, s0_2, z1, s1_0, s1_1, Q0_0, Q0_1, Q1_0, Q1_1, Q2⟩, g6_0⟩, sz7, bE, sz8, sz9, ow10, sz10, g10_0⟩, g27_0⟩ := HK27.out _ (Below.refl _ _)
 have le7_27 := sz7
 have le8_27 := sz8
 have le9_27 := sz9
 have le10_27 := sz10
 go_wp2_with fail
 refine (laws_eqIntS.calls (2 ^ 64) X27_0 x27_0 u6_0 X6_0 x6_0 u6_0 true _ g27_0.out.2 g27_0.out.1 g6_0.out.2 g6_0.out.1 (eqIntS_refl _ (g27_0.out.2.2).1 (2 ^ 64) (Nat.le_refl _))).mono ?_
 rintro e w28 ⟨rfl, hd⟩
 have hb := hd.below
 clear hd; have B28 := Aside0.mk hb; clear hB z0 s0_0 s0_1 s0_2 z1 s1_0 s1_1 Q0_0 Q0_1 Q1_0 Q1_1 Q2 g6_0 sz7 bE sz8 sz9 ow10 sz10 g10_0 g27_0 hb
 have HK28 := Aside0.mk fun (W : World) (hA : Below w28.heap.size w28 W) => HK27.out W (B28.out.trans (hA.mono B28.out.size))
 obtain ⟨⟨⟨⟨hB, z0, s0_0, s0_1, s0_2, z1, s1_0, s1_1, Q0_0, Q0_1, Q1_0, Q1_1, Q2⟩, g6_0⟩, sz7, bE, sz8, sz9, ow10, sz10, g10_0⟩, g27_0⟩ := HK28.out _ (Below.refl _ _)
 have le7_28 := sz7
 have le8_28 := sz8
 have le9_28 := sz9
 have le10_28 := sz10
 go_wp2_with fail
 refine (heldIntS_k _ _ _ _ _ g10_0.out.2 g10_0.out.1 SM_u6_0.out (by have := SM_u6_0.out; omega) (by have := SM_u6_0.out; omega)).mono ?_
 rintro e w29 ⟨rfl, hb⟩
 have B29 := Aside0.mk hb; clear hB z0 s0_0 s0_1 s0_2 z1 s1_0 s1_1 Q0_0 Q0_1 Q1_0 Q1_1 Q2 g6_0 sz7 bE sz8 sz9 ow10 sz10 g10_0 g27_0 hb
 have HK29 := Aside0.mk fun (W : World) (hA : Below w29.heap.size w29 W) => HK28.out W (B29.out.trans (hA.mono B29.out.size))
 obtain ⟨⟨⟨⟨hB, z0, s0_0, s0_1, s0_2, z1, s1_0, s1_1, Q0_0, Q0_1, Q1_0, Q1_1, Q2⟩, g6_0⟩, sz7, bE, sz8, sz9, ow10, sz10, g10_0⟩, g27_0⟩ := HK29.out _ (Below.refl _ _)
 have le7_29 := sz7
 have le8_29 := sz8
 have le9_29 := sz9
 have le10_29 := sz10
 go_wp2
 go_ret
 exact ⟨rfl, (HK29.out _ (Below.refl _ _)).1.1.1.1⟩

end Go.Proofs.Ytodfnelilhjoeaa.Pr
namespace Go.Proofs.Ytodfnelilhjoeaa.Pr
open Go.RowKit Go.Proofs.YtodfnelilhjoeaaW.PrintWords Go.Proofs.YtodfnelilhjoeaaW.PrintLast Go.Proofs.YtodfnelilhjoeaaW.PrintMore
attribute [local go_sem] max2_int min2_int max_two min_two max_three min_three max_four min_four
set_option linter.unusedVariables false
set_option linter.unusedSimpArgs false
def laws_FnExactTimesFor.Pure : Prop := ∀ (y0 : S25) (y1 : S28) (y2 : List Int), okS25 y0 → okS28 y1 → (fun l_ : List Int => l_.length ≤ maxLen ∧ ∀ x_ ∈ l_, (fun n_ : Int => (Lit.int .i64 n_).wf = true) x_) y2 → ∃ k, laws_FnExactTimesFor.f k y0.f0 y0.f1 y0.f2 y1.f0 y1.f1 y2 = some true
end Go.Proofs.Ytodfnelilhjoeaa.Pr
set_option linter.unusedSimpArgs false
namespace Go.Proofs.Ytodfnelilhjoeaa.Pure
open Go.RowKit Go.Proofs.Ytodfnelilhjoeaa.Pr Go.Proofs.Ytodfnelilhjoeaa.Ni Go.Proofs.YtodfnelilhjoeaaW.PrintWords Go.Proofs.YtodfnelilhjoeaaW.PrintMore
theorem FnExactTimesFor : laws_FnExactTimesFor.Pure := by
 rintro ⟨ns, ts, z⟩ ⟨ln, vs⟩ tm ⟨⟨hn, hb⟩, ⟨ht, _⟩, _⟩ ⟨⟨hln, _⟩, ⟨hvs, _⟩⟩ ⟨htm, _⟩
 simp only [maxLen] at hn ht hln hvs htm
 refine ⟨2 ^ 70, ?_⟩
 unfold laws_FnExactTimesFor.f
 by_cases hm : (tm.length : Int) > 1048576
 ·rw [if_pos hm]
 rw [if_neg hm]
 obtain ⟨r, hr, h⟩ := szShow_f ns ts z hn (fun n hn => by have := hb n hn; exact ⟨by simpa [maxLen] using this.1, by simpa [maxLen] using this.2.1.1⟩) ht (2 ^ 70) (by omega) 1048576 (by omega) (by omega)
 rw [hr, Option.bind_some]
 rcases h with h | ⟨h0, h1, h⟩
 ·rw [if_pos h]
 rw [if_neg (by omega)]
 have hc := h.cv
 obtain ⟨r2, hr2, h2⟩ := szChoice_f ln vs (by omega) (by omega) r (by omega) (by omega)
 rw [hr2, Option.bind_some]
 rcases h2 with h2 | ⟨_, _, h6, h7⟩
 ·rw [if_pos h2]
 rw [if_neg (by omega)]
 have htm' : tm.length ≤ 1048576 := by omega
 have hlen := Nat.le_trans (timesB_len (ns.map cvN) (ts.map cvT) z ln vs tm) hc.1
 have hsm := smallB_of hc
 simp only [toShow_f ns ts z h (2 ^ 70) (by omega), toChoice_f ln vs (by omega) (by omega) (2 ^ 70) (by omega), toIntS_f tm (by omega) (2 ^ 70) (by omega), spec_TimesFor_f (ts := ts.map cvT) (z := z) ln vs tm hc h7 (2 ^ 70) (by omega), impl_TimesFor_f (ts := ts.map cvT) (z := z) ln vs tm hc h7 (2 ^ 70) (by omega), hsm, hlen, h6, h7, htm', Option.bind_some, if_true]
end Go.Proofs.Ytodfnelilhjoeaa.Pure
