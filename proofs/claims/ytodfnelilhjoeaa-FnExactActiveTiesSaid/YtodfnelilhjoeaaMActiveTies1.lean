/- The texts of one claim, put together by a program of this session. -/
import Derived.Deep.RegionHeld3
import Derived.Test.YtodfnelilhjoeaaBAcc1x1
import Derived.Test.YtodfnelilhjoeaaBAcc1x12
import Derived.Test.YtodfnelilhjoeaaBAcc1x2
import Derived.Test.YtodfnelilhjoeaaBAcc1x8
namespace Go.Proofs.Ytodfnelilhjoeaa.Pr
open Go.RowKit Go.Proofs.YtodfnelilhjoeaaW.PrintWords Go.Proofs.YtodfnelilhjoeaaW.PrintLast Go.Proofs.YtodfnelilhjoeaaW.PrintMore
attribute [local go_sem] max2_int min2_int max_two min_two max_three min_three max_four min_four
set_option linter.unusedVariables false
set_option linter.unusedSimpArgs false

open Go.Proofs.Ytodfnelilhjoeaa.Ni
def laws_FnExactActiveTies.f (k : Nat) (l0_0 : List (S127)) (l0_1 : List (S130)) (a0_2 : Int) (a1_0 : Int) (l1_1 : List Int) (l1_2 : List Int) : Option (Bool) := ((laws_szShow.f k l0_0 l0_1 a0_2 1048576).bind fun u0_0 => (if u0_0 < 0 then some true else ((laws_szState.f a1_0 l1_1 l1_2 u0_0).bind fun u1_0 => (if u1_0 < 0 then some true else ((laws_toShow.f k l0_0 l0_1 a0_2).bind fun b2 => (if smallB b2.1 b2.2.1 = true then ((laws_toState.f k a1_0 l1_1 l1_2).bind fun b3 => (if b3.2.1.length ≤ 1048576 then (if b3.2.2.length ≤ 1048576 then ((spec_ActiveTies.f k b2.1 b2.2.1 b2.2.2 b3.1 b3.2.1 b3.2.2).bind fun u4_0 => ((impl_ActiveTies.f k b2.1 b2.2.1 b2.2.2 b3.1 b3.2.1 b3.2.2).bind fun u5_0 => (if u5_0 = u4_0 then (if u5_0.length ≤ 1048576 then (some true) else some false) else some false))) else some false) else some false)) else some false))))))
set_option maxHeartbeats 8000000 in
set_option maxRecDepth 100000 in
theorem laws_FnExactActiveTies.calls (k : Nat) (A0_0 : Option Addr) (c0_0 : Nat) (l0_0 : List (S127)) (A0_1 : Option Addr) (c0_1 : Nat) (l0_1 : List (S130)) (a0_2 : Int) (a1_0 : Int) (A1_1 : Option Addr) (c1_1 : Nat) (l1_1 : List Int) (A1_2 : Option Addr) (c1_2 : Nat) (l1_2 : List Int) (w : World) (hr0_0 : Kd.C k127 w A0_0 l0_0.length l0_0) (hc0_0 : l0_0.length ≤ c0_0) (hr0_1 : Kd.C k130 w A0_1 l0_1.length l0_1) (hc0_1 : l0_1.length ≤ c0_1) (hr1_1 : Kd.C (Kd.int .i64) w A1_1 l1_1.length l1_1) (hc1_1 : l1_1.length ≤ c1_1) (hr1_2 : Kd.C (Kd.int .i64) w A1_2 l1_2.length l1_2) (hc1_2 : l1_2.length ≤ c1_2) (h : laws_FnExactActiveTies.f k l0_0 l0_1 a0_2 a1_0 l1_1 l1_2 = some true) :
  Calls Try.prog 11 #[.agg #[.slice A0_0 l0_0.length c0_0, .slice A0_1 l0_1.length c0_1, .int .i64 a0_2], .agg #[.int .i64 a1_0, .slice A1_1 l1_1.length c1_1, .slice A1_2 l1_2.length c1_2]] w fun e w' => e = .returned (.bool true) ∧ Below w.heap.size w w' := by
 unfold laws_FnExactActiveTies.f at h
 have hv35 := Try.underlying35
 have hv66 := Try.underlying66
 replace h := Option.bind_eq_some_iff.1 h
 obtain ⟨u0_0, HF0, h⟩ := h
 (try dsimp only at h)
 replace HF0 := Aside0.mk HF0
 by_cases hcn0 : u0_0 < 0
 case pos =>
  have hq0 : decide (u0_0 < 0) = true := decide_eq_true hcn0
  clear h hcn0
  have hu25 := Try.underlying25
  have hu63 := Try.underlying63
  have HB0 := Aside0.mk (below_alloc (below_alloc (Below.refl w.heap.size w) (.cells #[.slice A0_0 l0_0.length c0_0, .slice A0_1 l0_1.length c0_1, .int .i64 a0_2] 25)) (.cells #[.int .i64 a1_0, .slice A1_1 l1_1.length c1_1, .slice A1_2 l1_2.length c1_2] 63))
  have Q0_0 := Aside0.mk (And.intro hc0_0 (Kd.C_below hr0_0 HB0.out))
  have Q0_1 := Aside0.mk (And.intro hc0_1 (Kd.C_below hr0_1 HB0.out))
  have Q1_1 := Aside0.mk (And.intro hc1_1 (Kd.C_below hr1_1 HB0.out))
  have Q1_2 := Aside0.mk (And.intro hc1_2 (Kd.C_below hr1_2 HB0.out))
  clear hr0_0 hc0_0 hr0_1 hc0_1 hr1_1 hc1_1 hr1_2 hc1_2
  go_enter Try.func11, Try.ntmps11
  go_wp2_with fail
  refine (laws_szShow.calls k A0_0 c0_0 l0_0 A0_1 c0_1 l0_1 a0_2 1048576 _ _ Q0_0.out.2 Q0_0.out.1 Q0_1.out.2 Q0_1.out.1 HF0.out).mono ?_
  rintro e w1 ⟨rfl, hb⟩
  have HB1 := Aside0.mk (HB0.out.trans (hb.mono HB0.out.size))
  have z0 : w.heap.size < w1.heap.size := Nat.lt_of_lt_of_le (by simp <;> omega) hb.size
  have s0_0 : w1.cell? ⟨w.heap.size, 0, none⟩ = some (.slice A0_0 l0_0.length c0_0) := kcell hb (by go_simp)
  have s0_1 : w1.cell? ⟨w.heap.size, 1, none⟩ = some (.slice A0_1 l0_1.length c0_1) := kcell hb (by go_simp)
  have s0_2 : w1.cell? ⟨w.heap.size, 2, none⟩ = some (.int .i64 a0_2) := kcell hb (by go_simp)
  have z1 : w.heap.size + 1 < w1.heap.size := Nat.lt_of_lt_of_le (by simp <;> omega) hb.size
  have s1_0 : w1.cell? ⟨w.heap.size + 1, 0, none⟩ = some (.int .i64 a1_0) := kcell hb (by go_simp)
  have s1_1 : w1.cell? ⟨w.heap.size + 1, 1, none⟩ = some (.slice A1_1 l1_1.length c1_1) := kcell hb (by go_simp)
  have s1_2 : w1.cell? ⟨w.heap.size + 1, 2, none⟩ = some (.slice A1_2 l1_2.length c1_2) := kcell hb (by go_simp)
  replace Q0_0 := Aside0.mk (And.intro Q0_0.out.1 (Kd.C_below Q0_0.out.2 hb))
  replace Q0_1 := Aside0.mk (And.intro Q0_1.out.1 (Kd.C_below Q0_1.out.2 hb))
  replace Q1_1 := Aside0.mk (And.intro Q1_1.out.1 (Kd.C_below Q1_1.out.2 hb))
  replace Q1_2 := Aside0.mk (And.intro Q1_2.out.1 (Kd.C_below Q1_2.out.2 hb))
  have HK1 := Aside0.mk fun (W : World) (hA : Below w1.heap.size w1 W) => And.intro (HB1.out.trans (hA.mono HB1.out.size)) (And.intro (Nat.lt_of_lt_of_le z0 hA.size) (And.intro (kcell hA s0_0) (And.intro (kcell hA s0_1) (And.intro (kcell hA s0_2) (And.intro (Nat.lt_of_lt_of_le z1 hA.size) (And.intro (kcell hA s1_0) (And.intro (kcell hA s1_1) (And.intro (kcell hA s1_2) (And.intro (Aside0.mk (And.intro Q0_0.out.1 (Kd.C_below Q0_0.out.2 hA))) (And.intro (Aside0.mk (And.intro Q0_1.out.1 (Kd.C_below Q0_1.out.2 hA))) (And.intro (Aside0.mk (And.intro Q1_1.out.1 (Kd.C_below Q1_1.out.2 hA))) ((Aside0.mk (And.intro Q1_2.out.1 (Kd.C_below Q1_2.out.2 hA)))))))))))))))
  clear z0 s0_0 s0_1 s0_2 z1 s1_0 s1_1 s1_2 Q0_0 Q0_1 Q1_1 Q1_2 hb
  obtain ⟨hB, z0, s0_0, s0_1, s0_2, z1, s1_0, s1_1, s1_2, Q0_0, Q0_1, Q1_1, Q1_2⟩ := HK1.out _ (Below.refl _ _)
  go_wp2
  go_ret
  exact ⟨rfl, (HK1.out _ (Below.refl _ _)).1⟩
 rw [if_neg hcn0] at h
 have hq0 : decide (u0_0 < 0) = false := decide_eq_false hcn0
 clear hcn0
 replace h := Option.bind_eq_some_iff.1 h
 obtain ⟨u1_0, HF1, h⟩ := h
 (try dsimp only at h)
 replace HF1 := Aside0.mk HF1
 by_cases hcn1 : u1_0 < 0
 case pos =>
  have hq1 : decide (u1_0 < 0) = true := decide_eq_true hcn1
  clear h hcn1
  have hu25 := Try.underlying25
  have hu63 := Try.underlying63
  have HB0 := Aside0.mk (below_alloc (below_alloc (Below.refl w.heap.size w) (.cells #[.slice A0_0 l0_0.length c0_0, .slice A0_1 l0_1.length c0_1, .int .i64 a0_2] 25)) (.cells #[.int .i64 a1_0, .slice A1_1 l1_1.length c1_1, .slice A1_2 l1_2.length c1_2] 63))
  have Q0_0 := Aside0.mk (And.intro hc0_0 (Kd.C_below hr0_0 HB0.out))
  have Q0_1 := Aside0.mk (And.intro hc0_1 (Kd.C_below hr0_1 HB0.out))
  have Q1_1 := Aside0.mk (And.intro hc1_1 (Kd.C_below hr1_1 HB0.out))
  have Q1_2 := Aside0.mk (And.intro hc1_2 (Kd.C_below hr1_2 HB0.out))
  clear hr0_0 hc0_0 hr0_1 hc0_1 hr1_1 hc1_1 hr1_2 hc1_2
  go_enter Try.func11, Try.ntmps11
  go_wp2_with fail
  refine (laws_szShow.calls k A0_0 c0_0 l0_0 A0_1 c0_1 l0_1 a0_2 1048576 _ _ Q0_0.out.2 Q0_0.out.1 Q0_1.out.2 Q0_1.out.1 HF0.out).mono ?_
  rintro e w1 ⟨rfl, hb⟩
  have HB1 := Aside0.mk (HB0.out.trans (hb.mono HB0.out.size))
  have z0 : w.heap.size < w1.heap.size := Nat.lt_of_lt_of_le (by simp <;> omega) hb.size
  have s0_0 : w1.cell? ⟨w.heap.size, 0, none⟩ = some (.slice A0_0 l0_0.length c0_0) := kcell hb (by go_simp)
  have s0_1 : w1.cell? ⟨w.heap.size, 1, none⟩ = some (.slice A0_1 l0_1.length c0_1) := kcell hb (by go_simp)
  have s0_2 : w1.cell? ⟨w.heap.size, 2, none⟩ = some (.int .i64 a0_2) := kcell hb (by go_simp)
  have z1 : w.heap.size + 1 < w1.heap.size := Nat.lt_of_lt_of_le (by simp <;> omega) hb.size
  have s1_0 : w1.cell? ⟨w.heap.size + 1, 0, none⟩ = some (.int .i64 a1_0) := kcell hb (by go_simp)
  have s1_1 : w1.cell? ⟨w.heap.size + 1, 1, none⟩ = some (.slice A1_1 l1_1.length c1_1) := kcell hb (by go_simp)
  have s1_2 : w1.cell? ⟨w.heap.size + 1, 2, none⟩ = some (.slice A1_2 l1_2.length c1_2) := kcell hb (by go_simp)
  replace Q0_0 := Aside0.mk (And.intro Q0_0.out.1 (Kd.C_below Q0_0.out.2 hb))
  replace Q0_1 := Aside0.mk (And.intro Q0_1.out.1 (Kd.C_below Q0_1.out.2 hb))
  replace Q1_1 := Aside0.mk (And.intro Q1_1.out.1 (Kd.C_below Q1_1.out.2 hb))
  replace Q1_2 := Aside0.mk (And.intro Q1_2.out.1 (Kd.C_below Q1_2.out.2 hb))
  have HK1 := Aside0.mk fun (W : World) (hA : Below w1.heap.size w1 W) => And.intro (HB1.out.trans (hA.mono HB1.out.size)) (And.intro (Nat.lt_of_lt_of_le z0 hA.size) (And.intro (kcell hA s0_0) (And.intro (kcell hA s0_1) (And.intro (kcell hA s0_2) (And.intro (Nat.lt_of_lt_of_le z1 hA.size) (And.intro (kcell hA s1_0) (And.intro (kcell hA s1_1) (And.intro (kcell hA s1_2) (And.intro (Aside0.mk (And.intro Q0_0.out.1 (Kd.C_below Q0_0.out.2 hA))) (And.intro (Aside0.mk (And.intro Q0_1.out.1 (Kd.C_below Q0_1.out.2 hA))) (And.intro (Aside0.mk (And.intro Q1_1.out.1 (Kd.C_below Q1_1.out.2 hA))) ((Aside0.mk (And.intro Q1_2.out.1 (Kd.C_below Q1_2.out.2 hA)))))))))))))))
  clear z0 s0_0 s0_1 s0_2 z1 s1_0 s1_1 s1_2 Q0_0 Q0_1 Q1_1 Q1_2 hb
  obtain ⟨hB, z0, s0_0, s0_1, s0_2, z1, s1_0, s1_1, s1_2, Q0_0, Q0_1, Q1_1, Q1_2⟩ := HK1.out _ (Below.refl _ _)
  go_wp2_with fail
  refine (laws_szState.calls a1_0 A1_1 c1_1 l1_1 A1_2 c1_2 l1_2 u0_0 _ _ Q1_1.out.2 Q1_1.out.1 Q1_2.out.2 Q1_2.out.1 HF1.out).mono ?_
  rintro e w2 ⟨rfl, hb⟩
  have B2 := Aside0.mk hb; clear hB z0 s0_0 s0_1 s0_2 z1 s1_0 s1_1 s1_2 Q0_0 Q0_1 Q1_1 Q1_2 hb
  have HK2 := Aside0.mk fun (W : World) (hA : Below w2.heap.size w2 W) => HK1.out W (B2.out.trans (hA.mono B2.out.size))
  obtain ⟨hB, z0, s0_0, s0_1, s0_2, z1, s1_0, s1_1, s1_2, Q0_0, Q0_1, Q1_1, Q1_2⟩ := HK2.out _ (Below.refl _ _)
  go_wp2
  go_ret
  exact ⟨rfl, (HK2.out _ (Below.refl _ _)).1⟩
 rw [if_neg hcn1] at h
 have hq1 : decide (u1_0 < 0) = false := decide_eq_false hcn1
 clear hcn1
 replace h := Option.bind_eq_some_iff.1 h
 obtain ⟨⟨u2_0_0, u2_0_1, u2_0_2⟩, HF2, h⟩ := h
 (try dsimp only at h)
 replace HF2 := Aside0.mk HF2
 by_cases ht102 : smallB u2_0_0 u2_0_1 = true
 case neg => rw [if_neg ht102] at h; exact absurd h (by simp)
 rw [if_pos ht102] at h
 have SM_u2_0_0 := Aside0.mk (smallB_iff ht102)
 clear ht102
 replace h := Option.bind_eq_some_iff.1 h
 obtain ⟨⟨u3_0_0, u3_0_1, u3_0_2⟩, HF3, h⟩ := h
 (try dsimp only at h)
 replace HF3 := Aside0.mk HF3
 by_cases ht111 : u3_0_1.length ≤ 1048576
 case neg => rw [if_neg ht111] at h; exact absurd h (by simp)
 rw [if_pos ht111] at h
 have SM_u3_0_1 := Aside0.mk (ht111)
 clear ht111
 by_cases ht116 : u3_0_2.length ≤ 1048576
 case neg => rw [if_neg ht116] at h; exact absurd h (by simp)
 rw [if_pos ht116] at h
 have SM_u3_0_2 := Aside0.mk (ht116)
 clear ht116
 replace h := Option.bind_eq_some_iff.1 h
 obtain ⟨u4_0, HF4, h⟩ := h
 (try dsimp only at h)
 replace HF4 := Aside0.mk HF4
 replace h := Option.bind_eq_some_iff.1 h
 obtain ⟨u5_0, HF5, h⟩ := h
 (try dsimp only at h)
 replace HF5 := Aside0.mk HF5
 by_cases ht129 : u5_0 = u4_0
 case neg => rw [if_neg ht129] at h; exact absurd h (by simp)
 rw [if_pos ht129] at h
 subst ht129
 by_cases ht133 : u5_0.length ≤ 1048576
 case neg => rw [if_neg ht133] at h; exact absurd h (by simp)
 rw [if_pos ht133] at h
 have SM_u5_0 := Aside0.mk (ht133)
 clear ht133 h
 have hu25 := Try.underlying25
 have hu63 := Try.underlying63
 have HB0 := Aside0.mk (below_alloc (below_alloc (Below.refl w.heap.size w) (.cells #[.slice A0_0 l0_0.length c0_0, .slice A0_1 l0_1.length c0_1, .int .i64 a0_2] 25)) (.cells #[.int .i64 a1_0, .slice A1_1 l1_1.length c1_1, .slice A1_2 l1_2.length c1_2] 63))
 have Q0_0 := Aside0.mk (And.intro hc0_0 (Kd.C_below hr0_0 HB0.out))
 have Q0_1 := Aside0.mk (And.intro hc0_1 (Kd.C_below hr0_1 HB0.out))
 have Q1_1 := Aside0.mk (And.intro hc1_1 (Kd.C_below hr1_1 HB0.out))
 have Q1_2 := Aside0.mk (And.intro hc1_2 (Kd.C_below hr1_2 HB0.out))
 clear hr0_0 hc0_0 hr0_1 hc0_1 hr1_1 hc1_1 hr1_2 hc1_2
 go_enter Try.func11, Try.ntmps11
 go_wp2_with fail
 refine (laws_szShow.calls k A0_0 c0_0 l0_0 A0_1 c0_1 l0_1 a0_2 1048576 _ _ Q0_0.out.2 Q0_0.out.1 Q0_1.out.2 Q0_1.out.1 HF0.out).mono ?_
 rintro e w1 ⟨rfl, hb⟩
 have HB1 := Aside0.mk (HB0.out.trans (hb.mono HB0.out.size))
 have z0 : w.heap.size < w1.heap.size := Nat.lt_of_lt_of_le (by simp <;> omega) hb.size
 have s0_0 : w1.cell? ⟨w.heap.size, 0, none⟩ = some (.slice A0_0 l0_0.length c0_0) := kcell hb (by go_simp)
 have s0_1 : w1.cell? ⟨w.heap.size, 1, none⟩ = some (.slice A0_1 l0_1.length c0_1) := kcell hb (by go_simp)
 have s0_2 : w1.cell? ⟨w.heap.size, 2, none⟩ = some (.int .i64 a0_2) := kcell hb (by go_simp)
 have z1 : w.heap.size + 1 < w1.heap.size := Nat.lt_of_lt_of_le (by simp <;> omega) hb.size
 have s1_0 : w1.cell? ⟨w.heap.size + 1, 0, none⟩ = some (.int .i64 a1_0) := kcell hb (by go_simp)
 have s1_1 : w1.cell? ⟨w.heap.size + 1, 1, none⟩ = some (.slice A1_1 l1_1.length c1_1) := kcell hb (by go_simp)
 have s1_2 : w1.cell? ⟨w.heap.size + 1, 2, none⟩ = some (.slice A1_2 l1_2.length c1_2) := kcell hb (by go_simp)
 replace Q0_0 := Aside0.mk (And.intro Q0_0.out.1 (Kd.C_below Q0_0.out.2 hb))
 replace Q0_1 := Aside0.mk (And.intro Q0_1.out.1 (Kd.C_below Q0_1.out.2 hb))
 replace Q1_1 := Aside0.mk (And.intro Q1_1.out.1 (Kd.C_below Q1_1.out.2 hb))
 replace Q1_2 := Aside0.mk (And.intro Q1_2.out.1 (Kd.C_below Q1_2.out.2 hb))
 have HK1 := Aside0.mk fun (W : World) (hA : Below w1.heap.size w1 W) => And.intro (HB1.out.trans (hA.mono HB1.out.size)) (And.intro (Nat.lt_of_lt_of_le z0 hA.size) (And.intro (kcell hA s0_0) (And.intro (kcell hA s0_1) (And.intro (kcell hA s0_2) (And.intro (Nat.lt_of_lt_of_le z1 hA.size) (And.intro (kcell hA s1_0) (And.intro (kcell hA s1_1) (And.intro (kcell hA s1_2) (And.intro (Aside0.mk (And.intro Q0_0.out.1 (Kd.C_below Q0_0.out.2 hA))) (And.intro (Aside0.mk (And.intro Q0_1.out.1 (Kd.C_below Q0_1.out.2 hA))) (And.intro (Aside0.mk (And.intro Q1_1.out.1 (Kd.C_below Q1_1.out.2 hA))) ((Aside0.mk (And.intro Q1_2.out.1 (Kd.C_below Q1_2.out.2 hA)))))))))))))))
 clear z0 s0_0 s0_1 s0_2 z1 s1_0 s1_1 s1_2 Q0_0 Q0_1 Q1_1 Q1_2 hb
 obtain ⟨hB, z0, s0_0, s0_1, s0_2, z1, s1_0, s1_1, s1_2, Q0_0, Q0_1, Q1_1, Q1_2⟩ := HK1.out _ (Below.refl _ _)
 go_wp2_with fail
 refine (laws_szState.calls a1_0 A1_1 c1_1 l1_1 A1_2 c1_2 l1_2 u0_0 _ _ Q1_1.out.2 Q1_1.out.1 Q1_2.out.2 Q1_2.out.1 HF1.out).mono ?_
 rintro e w2 ⟨rfl, hb⟩
 have B2 := Aside0.mk hb; clear hB z0 s0_0 s0_1 s0_2 z1 s1_0 s1_1 s1_2 Q0_0 Q0_1 Q1_1 Q1_2 hb
 have HK2 := Aside0.mk fun (W : World) (hA : Below w2.heap.size w2 W) => HK1.out W (B2.out.trans (hA.mono B2.out.size))
 obtain ⟨hB, z0, s0_0, s0_1, s0_2, z1, s1_0, s1_1, s1_2, Q0_0, Q0_1, Q1_1, Q1_2⟩ := HK2.out _ (Below.refl _ _)
 go_wp2_with fail
 go_region_held3 (fun w' => Below w2.heap.size w2 w' ∧ w'.cell? ⟨w.heap.size, 0, none⟩ = some (.slice A0_0 l0_0.length c0_0) ∧ w'.cell? ⟨w.heap.size, 1, none⟩ = some (.slice A0_1 l0_1.length c0_1) ∧ w'.cell? ⟨w.heap.size, 2, none⟩ = some (.int .i64 a0_2) ∧ w'.cell? ⟨w.heap.size + 1, 0, none⟩ = some (.int .i64 a1_0) ∧ w'.cell? ⟨w.heap.size + 1, 1, none⟩ = some (.slice A1_1 l1_1.length c1_1) ∧ w'.cell? ⟨w.heap.size + 1, 2, none⟩ = some (.slice A1_2 l1_2.length c1_2))
  (first | (refine ⟨by repeat (first | (with_reducible first | exact Below.refl _ _ | apply below_alloc | apply pw_below_drewN | apply below_drew1 | exact (‹Below w2.heap.size w2 _ ∧ _› : Below w2.heap.size w2 _ ∧ _).1) | exact Below.refl _ _), ?_⟩; go_simp; done) | (have HQ_ := HK2.out _ (below_step (‹Below w2.heap.size w2 _ ∧ _› : Below w2.heap.size w2 _ ∧ _).1 hb); exact ⟨below_step (‹Below w2.heap.size w2 _ ∧ _› : Below w2.heap.size w2 _ ∧ _).1 hb, HQ_.2.2.1, HQ_.2.2.2.1, HQ_.2.2.2.2.1, HQ_.2.2.2.2.2.2.1, HQ_.2.2.2.2.2.2.2.1, HQ_.2.2.2.2.2.2.2.2.1⟩))
  (first | (go_at_call 18; (refine (laws_toShow.c k A0_0 c0_0 l0_0 A0_1 c0_1 l0_1 a0_2 _ _ _ _ ?s3_0 ?s3_1 ?s3_2 ?s3_3 HF2.out).mono ?_); (case s3_0 => exact (HK2.out _ (‹Below w2.heap.size w2 _ ∧ _› : Below w2.heap.size w2 _ ∧ _).1).2.2.2.2.2.2.2.2.2.1.out.2); (case s3_1 => exact (HK2.out _ (‹Below w2.heap.size w2 _ ∧ _› : Below w2.heap.size w2 _ ∧ _).1).2.2.2.2.2.2.2.2.2.1.out.1); (case s3_2 => exact (HK2.out _ (‹Below w2.heap.size w2 _ ∧ _› : Below w2.heap.size w2 _ ∧ _).1).2.2.2.2.2.2.2.2.2.2.1.out.2); (case s3_3 => exact (HK2.out _ (‹Below w2.heap.size w2 _ ∧ _› : Below w2.heap.size w2 _ ∧ _).1).2.2.2.2.2.2.2.2.2.2.1.out.1); rintro e w3 ⟨X3_0, x3_0, X3_1, x3_1, rfl, g3_0, g3_1, hb⟩) | (go_at_call 40; (refine (laws_toState.c k a1_0 A1_1 c1_1 l1_1 A1_2 c1_2 l1_2 _ _ _ _ ?s4_0 ?s4_1 ?s4_2 ?s4_3 HF3.out).mono ?_); (case s4_0 => exact (HK2.out _ (‹Below w2.heap.size w2 _ ∧ _› : Below w2.heap.size w2 _ ∧ _).1).2.2.2.2.2.2.2.2.2.2.2.1.out.2); (case s4_1 => exact (HK2.out _ (‹Below w2.heap.size w2 _ ∧ _› : Below w2.heap.size w2 _ ∧ _).1).2.2.2.2.2.2.2.2.2.2.2.1.out.1); (case s4_2 => exact (HK2.out _ (‹Below w2.heap.size w2 _ ∧ _› : Below w2.heap.size w2 _ ∧ _).1).2.2.2.2.2.2.2.2.2.2.2.2.out.2); (case s4_3 => exact (HK2.out _ (‹Below w2.heap.size w2 _ ∧ _› : Below w2.heap.size w2 _ ∧ _).1).2.2.2.2.2.2.2.2.2.2.2.2.out.1); rintro e w4 ⟨X4_0, x4_0, X4_1, x4_1, rfl, g4_0, g4_1, hb⟩; replace g3_0 := Aside0.mk (And.intro g3_0.out.1 (Kd.C_below g3_0.out.2 hb)); replace g3_1 := Aside0.mk (And.intro g3_1.out.1 (Kd.C_below g3_1.out.2 hb))) | (go_at_call 51; (refine (spec_ActiveTies.c k X3_0 x3_0 u2_0_0 X3_1 x3_1 u2_0_1 u2_0_2 u3_0_0 X4_0 x4_0 u3_0_1 X4_1 x4_1 u3_0_2 _ _ ?s5_0 ?s5_1 ?s5_2 ?s5_3 ?s5_4 ?s5_5 ?s5_6 ?s5_7 HF4.out).mono ?_); (case s5_0 => exact g3_0.out.2); (case s5_1 => exact g3_0.out.1); (case s5_2 => exact g3_1.out.2); (case s5_3 => exact g3_1.out.1); (case s5_4 => exact g4_0.out.2); (case s5_5 => exact g4_0.out.1); (case s5_6 => exact g4_1.out.2); (case s5_7 => exact g4_1.out.1); rintro e w5 ⟨X5_0, x5_0, rfl, g5_0, hb⟩; replace g3_0 := Aside0.mk (And.intro g3_0.out.1 (Kd.C_below g3_0.out.2 hb)); replace g3_1 := Aside0.mk (And.intro g3_1.out.1 (Kd.C_below g3_1.out.2 hb)); replace g4_0 := Aside0.mk (And.intro g4_0.out.1 (Kd.C_below g4_0.out.2 hb)); replace g4_1 := Aside0.mk (And.intro g4_1.out.1 (Kd.C_below g4_1.out.2 hb))))
 have B5 := Aside0.mk (‹Below w2.heap.size w2 w5 ∧ _› : Below w2.heap.size w2 w5 ∧ _).1
 clear hB z0 s0_0 s0_1 s0_2 z1 s1_0 s1_1 s1_2 Q0_0 Q0_1 Q1_1 Q1_2
 have HK5 := Aside0.mk fun (W : World) (hA : Below w5.heap.size w5 W) => And.intro (HK2.out W (B5.out.trans (hA.mono B5.out.size))) ((Aside0.mk (And.intro g5_0.out.1 (Kd.C_below g5_0.out.2 hA))))
 clear g5_0
 obtain ⟨⟨hB, z0, s0_0, s0_1, s0_2, z1, s1_0, s1_1, s1_2, Q0_0, Q0_1, Q1_1, Q1_2⟩, g5_0⟩ := HK5.out _ (Below.refl _ _)
 go_wp2_with fail
 refine (laws_toShow.o k A0_0 c0_0 l0_0 A0_1 c0_1 l0_1 a0_2 _ _ _ _ Q0_0.out.2 Q0_0.out.1 Q0_1.out.2 Q0_1.out.1 HF2.out).mono ?_
 rintro e w6 ⟨X6_0, x6_0, X6_1, x6_1, rfl, g6_0, g6_1, ow6, hb⟩
 have B6 := Aside0.mk hb
 replace ow6 := Aside0.mk (And.intro (Kd.S_lower (Kd.S_mono ow6.out.1 (fun k hk => And.intro hk.1 (And.intro (Nat.le_trans (Nat.le_refl _) hk.2.1) hk.2.2))) (Nat.le_refl _)) (Kd.R_lower (Kd.R_mono ow6.out.2 (fun k hk => And.intro hk.1 (And.intro (Nat.le_trans (Nat.le_refl _) hk.2.1) hk.2.2))) (Nat.le_refl _)))
 have sz6 := Nat.le_refl w6.heap.size
 have bE := B6.out
 clear hB z0 s0_0 s0_1 s0_2 z1 s1_0 s1_1 s1_2 Q0_0 Q0_1 Q1_1 Q1_2 g5_0 hb
 have HK6 := Aside0.mk fun (W : World) (hA : Below w6.heap.size w6 W) => And.intro (HK5.out W (B6.out.trans (hA.mono B6.out.size))) (And.intro (Aside0.mk (And.intro (Kd.S_below ow6.out.1 hA) (Kd.R_below ow6.out.2 hA))) (And.intro (Nat.le_trans sz6 hA.size) (And.intro (bE.trans (hA.mono bE.size)) (And.intro (Aside0.mk (And.intro g6_0.out.1 (Kd.C_below g6_0.out.2 hA))) ((Aside0.mk (And.intro g6_1.out.1 (Kd.C_below g6_1.out.2 hA))))))))
 clear ow6 sz6 bE g6_0 g6_1
 obtain ⟨⟨⟨hB, z0, s0_0, s0_1, s0_2, z1, s1_0, s1_1, s1_2, Q0_0, Q0_1, Q1_1, Q1_2⟩, g5_0⟩, ow6, sz6, bE, g6_0, g6_1⟩ := HK6.out _ (Below.refl _ _)
 go_wp2_with fail
 refine (laws_toState.o k a1_0 A1_1 c1_1 l1_1 A1_2 c1_2 l1_2 _ _ _ _ (Kd.C_below Q1_1.out.2 (below_alloc (Below.refl _ _) _)) Q1_1.out.1 (Kd.C_below Q1_2.out.2 (below_alloc (Below.refl _ _) _)) Q1_2.out.1 HF3.out).mono ?_
 rintro e w7 ⟨X7_0, x7_0, X7_1, x7_1, rfl, g7_0, g7_1, ow7, hb⟩
 have B7 := Aside0.mk (below_step (below_alloc (Below.refl w6.heap.size w6) _) hb)
 replace ow7 := Aside0.mk (And.intro (Kd.R_lower (Kd.R_mono ow7.out.1 (fun k hk => And.intro hk.1 (And.intro (Nat.le_trans (below_alloc (Below.refl w6.heap.size w6) _).size hk.2.1) hk.2.2))) (Nat.le_trans bE.size (below_alloc (Below.refl w6.heap.size w6) _).size)) (Kd.R_lower (Kd.R_mono ow7.out.2 (fun k hk => And.intro hk.1 (And.intro (Nat.le_trans (below_alloc (Below.refl w6.heap.size w6) _).size hk.2.1) hk.2.2))) (Nat.le_trans bE.size (below_alloc (Below.refl w6.heap.size w6) _).size)))
 have sz7 := Nat.le_refl w7.heap.size
 have z2 : w6.heap.size < w7.heap.size := Nat.lt_of_lt_of_le (by simp <;> omega) hb.size
 have s2_0 : w7.cell? ⟨w6.heap.size, 0, none⟩ = some (.slice X6_0 u2_0_0.length x6_0) := kcell hb (by go_simp)
 have s2_1 : w7.cell? ⟨w6.heap.size, 1, none⟩ = some (.slice X6_1 u2_0_1.length x6_1) := kcell hb (by go_simp)
 have s2_2 : w7.cell? ⟨w6.heap.size, 2, none⟩ = some (.int .i64 u2_0_2) := kcell hb (by go_simp)
 clear hB z0 s0_0 s0_1 s0_2 z1 s1_0 s1_1 s1_2 Q0_0 Q0_1 Q1_1 Q1_2 g5_0 ow6 sz6 bE g6_0 g6_1 hb
 have HK7 := Aside0.mk fun (W : World) (hA : Below w7.heap.size w7 W) => And.intro (HK6.out W (B7.out.trans (hA.mono B7.out.size))) (And.intro (Aside0.mk (And.intro (Kd.R_below ow7.out.1 hA) (Kd.R_below ow7.out.2 hA))) (And.intro (Nat.le_trans sz7 hA.size) (And.intro (Nat.lt_of_lt_of_le z2 hA.size) (And.intro (kcell hA s2_0) (And.intro (kcell hA s2_1) (And.intro (kcell hA s2_2) (And.intro (Aside0.mk (And.intro g7_0.out.1 (Kd.C_below g7_0.out.2 hA))) ((Aside0.mk (And.intro g7_1.out.1 (Kd.C_below g7_1.out.2 hA)))))))))))
 clear ow7 sz7 z2 s2_0 s2_1 s2_2 g7_0 g7_1
 obtain ⟨⟨⟨⟨hB, z0, s0_0, s0_1, s0_2, z1, s1_0, s1_1, s1_2, Q0_0, Q0_1, Q1_1, Q1_2⟩, g5_0⟩, ow6, sz6, bE, g6_0, g6_1⟩, ow7, sz7, z2, s2_0, s2_1, s2_2, g7_0, g7_1⟩ := HK7.out _ (Below.refl _ _)
 have le6_7 := sz6
 go_wp2_with fail
 refine (impl_ActiveTies.o k X6_0 x6_0 u2_0_0 X6_1 x6_1 u2_0_1 u2_0_2 u3_0_0 X7_0 x7_0 u3_0_1 X7_1 x7_1 u3_0_2 _ _ (Kd.C_below g6_0.out.2 (below_alloc (Below.refl _ _) _)) g6_0.out.1 (Kd.C_below g6_1.out.2 (below_alloc (Below.refl _ _) _)) g6_1.out.1 (Kd.C_below g7_0.out.2 (below_alloc (Below.refl _ _) _)) g7_0.out.1 (Kd.C_below g7_1.out.2 (below_alloc (Below.refl _ _) _)) g7_1.out.1 HF5.out).mono ?_
 rintro e w8 ⟨X8_0, x8_0, rfl, g8_0, ow8, hb⟩
 have B8 := Aside0.mk (below_step (below_alloc (Below.refl w7.heap.size w7) _) hb)
 replace ow8 := Aside0.mk (Kd.R_lower (Kd.R_mono ow8.out (fun k hk => And.intro hk.1 (And.intro (Nat.le_trans (below_alloc (Below.refl w7.heap.size w7) _).size hk.2.1) hk.2.2))) (Nat.le_trans bE.size (below_alloc (Below.refl w7.heap.size w7) _).size))
 have sz8 := Nat.le_refl w8.heap.size
 have z3 : w7.heap.size < w8.heap.size := Nat.lt_of_lt_of_le (by simp <;> omega) hb.size
 have s3_0 : w8.cell? ⟨w7.heap.size, 0, none⟩ = some (.int .i64 u3_0_0) := kcell hb (by go_simp)
 have s3_1 : w8.cell? ⟨w7.heap.size, 1, none⟩ = some (.slice X7_0 u3_0_1.length x7_0) := kcell hb (by go_simp)
 have s3_2 : w8.cell? ⟨w7.heap.size, 2, none⟩ = some (.slice X7_1 u3_0_2.length x7_1) := kcell hb (by go_simp)
 clear hB z0 s0_0 s0_1 s0_2 z1 s1_0 s1_1 s1_2 Q0_0 Q0_1 Q1_1 Q1_2 g5_0 ow6 sz6 bE g6_0 g6_1 ow7 sz7 z2 s2_0 s2_1 s2_2 g7_0 g7_1 hb
 have HK8 := Aside0.mk fun (W : World) (hA : Below w8.heap.size w8 W) => And.intro (HK7.out W (B8.out.trans (hA.mono B8.out.size))) (And.intro (Aside0.mk (Kd.R_below ow8.out hA)) (And.intro (Nat.le_trans sz8 hA.size) (And.intro (Nat.lt_of_lt_of_le z3 hA.size) (And.intro (kcell hA s3_0) (And.intro (kcell hA s3_1) (And.intro (kcell hA s3_2) ((Aside0.mk (And.intro g8_0.out.1 (Kd.C_below g8_0.out.2 hA))))))))))
 clear ow8 sz8 z3 s3_0 s3_1 s3_2 g8_0
 obtain ⟨⟨⟨⟨⟨hB, z0, s0_0, s0_1, s0_2, z1, s1_0, s1_1, s1_2, Q0_0, Q0_1, Q1_1, Q1_2⟩, g5_0⟩, ow6, sz6, bE, g6_0, g6_1⟩, ow7, sz7, z2, s2_0, s2_1, s2_2, g7_0, g7_1⟩, ow8, sz8, z3, s3_0, s3_1, s3_2, g8_0⟩ := HK8.out _ (Below.refl _ _)
 have le6_8 := sz6
 have le7_8 := sz7
 go_wp2_with fail
 refine (laws_eqIntS.calls (2 ^ 64) X8_0 x8_0 u5_0 X5_0 x5_0 u5_0 true _ g8_0.out.2 g8_0.out.1 g5_0.out.2 g5_0.out.1 (eqIntS_refl _ (g8_0.out.2.2).1 (2 ^ 64) (Nat.le_refl _))).mono ?_
 rintro e w9 ⟨rfl, hd⟩
 have hb := hd.below
 clear hd; have B9 := Aside0.mk hb; clear hB z0 s0_0 s0_1 s0_2 z1 s1_0 s1_1 s1_2 Q0_0 Q0_1 Q1_1 Q1_2 g5_0 ow6 sz6 bE g6_0 g6_1 ow7 sz7 z2 s2_0 s2_1 s2_2 g7_0 g7_1 ow8 sz8 z3 s3_0 s3_1 s3_2 g8_0 hb
 have HK9 := Aside0.mk fun (W : World) (hA : Below w9.heap.size w9 W) => HK8.out W (B9.out.trans (hA.mono B9.out.size))
 obtain ⟨⟨⟨⟨⟨hB, z0, s0_0, s0_1, s0_2, z1, s1_0, s1_1, s1_2, Q0_0, Q0_1, Q1_1, Q1_2⟩, g5_0⟩, ow6, sz6, bE, g6_0, g6_1⟩, ow7, sz7, z2, s2_0, s2_1, s2_2, g7_0, g7_1⟩, ow8, sz8, z3, s3_0, s3_1, s3_2, g8_0⟩ := HK9.out _ (Below.refl _ _)
 have le6_9 := sz6
 have le7_9 := sz7
 have le8_9 := sz8
 go_wp2_with fail
 go_region_held3 (fun w' => Below w9.heap.size w9 w' ∧ w'.cell? ⟨w6.heap.size, 0, none⟩ = some (.slice X6_0 u2_0_0.length x6_0) ∧ w'.cell? ⟨w6.heap.size, 1, none⟩ = some (.slice X6_1 u2_0_1.length x6_1) ∧ w'.cell? ⟨w6.heap.size, 2, none⟩ = some (.int .i64 u2_0_2) ∧ w'.cell? ⟨w.heap.size, 0, none⟩ = some (.slice A0_0 l0_0.length c0_0) ∧ w'.cell? ⟨w.heap.size, 1, none⟩ = some (.slice A0_1 l0_1.length c0_1) ∧ w'.cell? ⟨w.heap.size, 2, none⟩ = some (.int .i64 a0_2))
  (first | (refine ⟨by repeat (first | (with_reducible first | exact Below.refl _ _ | apply below_alloc | apply pw_below_drewN | apply below_drew1 | exact (‹Below w9.heap.size w9 _ ∧ _› : Below w9.heap.size w9 _ ∧ _).1) | exact Below.refl _ _), ?_⟩; go_simp; done) | (have HQ_ := HK9.out _ (below_step (‹Below w9.heap.size w9 _ ∧ _› : Below w9.heap.size w9 _ ∧ _).1 hb); exact ⟨below_step (‹Below w9.heap.size w9 _ ∧ _› : Below w9.heap.size w9 _ ∧ _).1 hb, HQ_.1.2.2.2.2.1, HQ_.1.2.2.2.2.2.1, HQ_.1.2.2.2.2.2.2.1, HQ_.1.1.1.1.2.2.1, HQ_.1.1.1.1.2.2.2.1, HQ_.1.1.1.1.2.2.2.2.1⟩))
  (first | (go_at_call 18; (refine (laws_toShow.c k A0_0 c0_0 l0_0 A0_1 c0_1 l0_1 a0_2 _ _ _ _ ?s10_0 ?s10_1 ?s10_2 ?s10_3 HF2.out).mono ?_); (case s10_0 => exact (HK9.out _ (‹Below w9.heap.size w9 _ ∧ _› : Below w9.heap.size w9 _ ∧ _).1).1.1.1.1.2.2.2.2.2.2.2.2.2.1.out.2); (case s10_1 => exact (HK9.out _ (‹Below w9.heap.size w9 _ ∧ _› : Below w9.heap.size w9 _ ∧ _).1).1.1.1.1.2.2.2.2.2.2.2.2.2.1.out.1); (case s10_2 => exact (HK9.out _ (‹Below w9.heap.size w9 _ ∧ _› : Below w9.heap.size w9 _ ∧ _).1).1.1.1.1.2.2.2.2.2.2.2.2.2.2.1.out.2); (case s10_3 => exact (HK9.out _ (‹Below w9.heap.size w9 _ ∧ _› : Below w9.heap.size w9 _ ∧ _).1).1.1.1.1.2.2.2.2.2.2.2.2.2.2.1.out.1); rintro e w10 ⟨X10_0, x10_0, X10_1, x10_1, rfl, g10_0, g10_1, hb⟩) | (go_at_call 21; (refine (laws_eqShow.same X6_0 x6_0 X10_0 x10_0 u2_0_0 X6_1 x6_1 X10_1 x10_1 u2_0_1 u2_0_2 _ ?s11_0 ?s11_1 ?s11_2 ?s11_3 ?s11_4 ?s11_5 ?s11_6 ?s11_7).mono ?_); (case s11_0 => exact (HK9.out _ (‹Below w9.heap.size w9 _ ∧ _› : Below w9.heap.size w9 _ ∧ _).1).1.1.2.2.2.2.1.out.2); (case s11_1 => exact (HK9.out _ (‹Below w9.heap.size w9 _ ∧ _› : Below w9.heap.size w9 _ ∧ _).1).1.1.2.2.2.2.1.out.1); (case s11_2 => exact g10_0.out.2); (case s11_3 => exact g10_0.out.1); (case s11_4 => exact (HK9.out _ (‹Below w9.heap.size w9 _ ∧ _› : Below w9.heap.size w9 _ ∧ _).1).1.1.2.2.2.2.2.out.2); (case s11_5 => exact (HK9.out _ (‹Below w9.heap.size w9 _ ∧ _› : Below w9.heap.size w9 _ ∧ _).1).1.1.2.2.2.2.2.out.1); (case s11_6 => exact g10_1.out.2); (case s11_7 => exact g10_1.out.1); rintro e w11 ⟨rfl, hb⟩; replace g10_0 := Aside0.mk (And.intro g10_0.out.1 (Kd.C_below g10_0.out.2 hb)); replace g10_1 := Aside0.mk (And.intro g10_1.out.1 (Kd.C_below g10_1.out.2 hb))))
 have B11 := Aside0.mk (‹Below w9.heap.size w9 w11 ∧ _› : Below w9.heap.size w9 w11 ∧ _).1
 clear hB z0 s0_0 s0_1 s0_2 z1 s1_0 s1_1 s1_2 Q0_0 Q0_1 Q1_1 Q1_2 g5_0 ow6 sz6 bE g6_0 g6_1 ow7 sz7 z2 s2_0 s2_1 s2_2 g7_0 g7_1 ow8 sz8 z3 s3_0 s3_1 s3_2 g8_0
 have HK11 := Aside0.mk fun (W : World) (hA : Below w11.heap.size w11 W) => HK9.out W (B11.out.trans (hA.mono B11.out.size))
 obtain ⟨⟨⟨⟨⟨hB, z0, s0_0, s0_1, s0_2, z1, s1_0, s1_1, s1_2, Q0_0, Q0_1, Q1_1, Q1_2⟩, g5_0⟩, ow6, sz6, bE, g6_0, g6_1⟩, ow7, sz7, z2, s2_0, s2_1, s2_2, g7_0, g7_1⟩, ow8, sz8, z3, s3_0, s3_1, s3_2, g8_0⟩ := HK11.out _ (Below.refl _ _)
 have le6_11 := sz6
 have le7_11 := sz7
 have le8_11 := sz8
 go_wp2_with fail
 go_region_held3 (fun w' => Below w11.heap.size w11 w' ∧ w'.cell? ⟨w7.heap.size, 0, none⟩ = some (.int .i64 u3_0_0) ∧ w'.cell? ⟨w7.heap.size, 1, none⟩ = some (.slice X7_0 u3_0_1.length x7_0) ∧ w'.cell? ⟨w7.heap.size, 2, none⟩ = some (.slice X7_1 u3_0_2.length x7_1) ∧ w'.cell? ⟨w.heap.size + 1, 0, none⟩ = some (.int .i64 a1_0) ∧ w'.cell? ⟨w.heap.size + 1, 1, none⟩ = some (.slice A1_1 l1_1.length c1_1) ∧ w'.cell? ⟨w.heap.size + 1, 2, none⟩ = some (.slice A1_2 l1_2.length c1_2))
  (first | (refine ⟨by repeat (first | (with_reducible first | exact Below.refl _ _ | apply below_alloc | apply pw_below_drewN | apply below_drew1 | exact (‹Below w11.heap.size w11 _ ∧ _› : Below w11.heap.size w11 _ ∧ _).1) | exact Below.refl _ _), ?_⟩; go_simp; done) | (have HQ_ := HK11.out _ (below_step (‹Below w11.heap.size w11 _ ∧ _› : Below w11.heap.size w11 _ ∧ _).1 hb); exact ⟨below_step (‹Below w11.heap.size w11 _ ∧ _› : Below w11.heap.size w11 _ ∧ _).1 hb, HQ_.2.2.2.2.1, HQ_.2.2.2.2.2.1, HQ_.2.2.2.2.2.2.1, HQ_.1.1.1.1.2.2.2.2.2.2.1, HQ_.1.1.1.1.2.2.2.2.2.2.2.1, HQ_.1.1.1.1.2.2.2.2.2.2.2.2.1⟩))
  (first | (go_at_call 40; (refine (laws_toState.c k a1_0 A1_1 c1_1 l1_1 A1_2 c1_2 l1_2 _ _ _ _ ?s12_0 ?s12_1 ?s12_2 ?s12_3 HF3.out).mono ?_); (case s12_0 => exact (HK11.out _ (‹Below w11.heap.size w11 _ ∧ _› : Below w11.heap.size w11 _ ∧ _).1).1.1.1.1.2.2.2.2.2.2.2.2.2.2.2.1.out.2); (case s12_1 => exact (HK11.out _ (‹Below w11.heap.size w11 _ ∧ _› : Below w11.heap.size w11 _ ∧ _).1).1.1.1.1.2.2.2.2.2.2.2.2.2.2.2.1.out.1); (case s12_2 => exact (HK11.out _ (‹Below w11.heap.size w11 _ ∧ _› : Below w11.heap.size w11 _ ∧ _).1).1.1.1.1.2.2.2.2.2.2.2.2.2.2.2.2.out.2); (case s12_3 => exact (HK11.out _ (‹Below w11.heap.size w11 _ ∧ _› : Below w11.heap.size w11 _ ∧ _).1).1.1.1.1.2.2.2.2.2.2.2.2.2.2.2.2.out.1); rintro e w12 ⟨X12_0, x12_0, X12_1, x12_1, rfl, g12_0, g12_1, hb⟩) | (go_at_call 42; (refine (laws_eqState.same u3_0_0 X7_0 x7_0 X12_0 x12_0 u3_0_1 X7_1 x7_1 X12_1 x12_1 u3_0_2 _ ?s13_0 ?s13_1 ?s13_2 ?s13_3 ?s13_4 ?s13_5 ?s13_6 ?s13_7).mono ?_); (case s13_0 => exact (HK11.out _ (‹Below w11.heap.size w11 _ ∧ _› : Below w11.heap.size w11 _ ∧ _).1).1.2.2.2.2.2.2.2.1.out.2); (case s13_1 => exact (HK11.out _ (‹Below w11.heap.size w11 _ ∧ _› : Below w11.heap.size w11 _ ∧ _).1).1.2.2.2.2.2.2.2.1.out.1); (case s13_2 => exact g12_0.out.2); (case s13_3 => exact g12_0.out.1); (case s13_4 => exact (HK11.out _ (‹Below w11.heap.size w11 _ ∧ _› : Below w11.heap.size w11 _ ∧ _).1).1.2.2.2.2.2.2.2.2.out.2); (case s13_5 => exact (HK11.out _ (‹Below w11.heap.size w11 _ ∧ _› : Below w11.heap.size w11 _ ∧ _).1).1.2.2.2.2.2.2.2.2.out.1); (case s13_6 => exact g12_1.out.2); (case s13_7 => exact g12_1.out.1); rintro e w13 ⟨rfl, hb⟩; replace g12_0 := Aside0.mk (And.intro g12_0.out.1 (Kd.C_below g12_0.out.2 hb)); replace g12_1 := Aside0.mk (And.intro g12_1.out.1 (Kd.C_below g12_1.out.2 hb))))
 have B13 := Aside0.mk (‹Below w11.heap.size w11 w13 ∧ _› : Below w11.heap.size w11 w13 ∧ _).1
 clear hB z0 s0_0 s0_1 s0_2 z1 s1_0 s1_1 s1_2 Q0_0 Q0_1 Q1_1 Q1_2 g5_0 ow6 sz6 bE g6_0 g6_1 ow7 sz7 z2 s2_0 s2_1 s2_2 g7_0 g7_1 ow8 sz8 z3 s3_0 s3_1 s3_2 g8_0
 have HK13 := Aside0.mk fun (W : World) (hA : Below w13.heap.size w13 W) => HK11.out W (B13.out.trans (hA.mono B13.out.size))
 obtain ⟨⟨⟨⟨⟨hB, z0, s0_0, s0_1, s0_2, z1, s1_0, s1_1, s1_2, Q0_0, Q0_1, Q1_1, Q1_2⟩, g5_0⟩, ow6, sz6, bE, g6_0, g6_1⟩, ow7, sz7, z2, s2_0, s2_1, s2_2, g7_0, g7_1⟩, ow8, sz8, z3, s3_0, s3_1, s3_2, g8_0⟩ := HK13.out _ (Below.refl _ _)
 have le6_13 := sz6
 have le7_13 := sz7
 have le8_13 := sz8
 go_wp2_with fail
 refine (markShow_k w5 _ _ _ _ _ _ _ bE (Kd.S_mono ow6.out.1 (fun k hk => hk.2.2)) (Kd.R_mono ow6.out.2 (fun k hk => hk.2.2)) SM_u2_0_0.out.1 SM_u2_0_0.out.2.1 SM_u2_0_0.out.2.2 _ (by omega) (by omega)).mono ?_
 rintro e w14 ⟨kx14, rfl, HR14, hb, hk⟩
 have hqkx14 := (decide_eq_false (by have := HR14.out; omega) : decide (kx14 < 0) = false)
 have B14 := Aside0.mk hb
 replace sz6 := Nat.le_trans sz6 hk.1
 replace bE := hb
 replace ow7 := Aside0.mk (And.intro (Kd.R_kept ow7.out.1 hk (fun k h2 h3 => absurd (Nat.lt_of_lt_of_le h3 (Nat.le_trans (Nat.le_refl _) h2.2.1)) (Nat.lt_irrefl _))) (Kd.R_kept ow7.out.2 hk (fun k h2 h3 => absurd (Nat.lt_of_lt_of_le h3 (Nat.le_trans (Nat.le_refl _) h2.2.1)) (Nat.lt_irrefl _))))
 replace sz7 := Nat.le_trans sz7 hk.1
 replace z2 := Nat.lt_of_lt_of_le z2 hk.1
 replace s2_0 := cell_kept s2_0 hk (fun h3 => absurd (Nat.lt_of_lt_of_le h3 (Nat.le_refl _)) (Nat.lt_irrefl _))
 replace s2_1 := cell_kept s2_1 hk (fun h3 => absurd (Nat.lt_of_lt_of_le h3 (Nat.le_refl _)) (Nat.lt_irrefl _))
 replace s2_2 := cell_kept s2_2 hk (fun h3 => absurd (Nat.lt_of_lt_of_le h3 (Nat.le_refl _)) (Nat.lt_irrefl _))
 replace g7_0 := Aside0.mk (And.intro g7_0.out.1 (Kd.R_reads' ow7.out.1).2.2)
 replace g7_1 := Aside0.mk (And.intro g7_1.out.1 (Kd.R_reads' ow7.out.2).2.2)
 replace ow8 := Aside0.mk (Kd.R_kept ow8.out hk (fun k h2 h3 => absurd (Nat.lt_of_lt_of_le h3 (Nat.le_trans le6_7 h2.2.1)) (Nat.lt_irrefl _)))
 replace sz8 := Nat.le_trans sz8 hk.1
 replace z3 := Nat.lt_of_lt_of_le z3 hk.1
 replace s3_0 := cell_kept s3_0 hk (fun h3 => absurd (Nat.lt_of_lt_of_le h3 le6_7) (Nat.lt_irrefl _))
 replace s3_1 := cell_kept s3_1 hk (fun h3 => absurd (Nat.lt_of_lt_of_le h3 le6_7) (Nat.lt_irrefl _))
 replace s3_2 := cell_kept s3_2 hk (fun h3 => absurd (Nat.lt_of_lt_of_le h3 le6_7) (Nat.lt_irrefl _))
 replace g8_0 := Aside0.mk (And.intro g8_0.out.1 (Kd.R_reads' ow8.out).2.2)
 clear hB z0 s0_0 s0_1 s0_2 z1 s1_0 s1_1 s1_2 Q0_0 Q0_1 Q1_1 Q1_2 g5_0 ow6 g6_0 g6_1 hk
 have HK14 := Aside0.mk fun (W : World) (hA : Below w14.heap.size w14 W) => And.intro (HK5.out W (B14.out.trans (hA.mono B14.out.size))) (And.intro (Nat.le_trans sz6 hA.size) (And.intro (bE.trans (hA.mono bE.size)) (And.intro (Aside0.mk (And.intro (Kd.R_below ow7.out.1 hA) (Kd.R_below ow7.out.2 hA))) (And.intro (Nat.le_trans sz7 hA.size) (And.intro (Nat.lt_of_lt_of_le z2 hA.size) (And.intro (kcell hA s2_0) (And.intro (kcell hA s2_1) (And.intro (kcell hA s2_2) (And.intro (Aside0.mk (And.intro g7_0.out.1 (Kd.C_below g7_0.out.2 hA))) (And.intro (Aside0.mk (And.intro g7_1.out.1 (Kd.C_below g7_1.out.2 hA))) (And.intro (Aside0.mk (Kd.R_below ow8.out hA)) (And.intro (Nat.le_trans sz8 hA.size) (And.intro (Nat.lt_of_lt_of_le z3 hA.size) (And.intro (kcell hA s3_0) (And.intro (kcell hA s3_1) (And.intro (kcell hA s3_2) ((Aside0.mk (And.intro g8_0.out.1 (Kd.C_below g8_0.out.2 hA))))))))))))))))))))
 clear sz6 bE ow7 sz7 z2 s2_0 s2_1 s2_2 g7_0 g7_1 ow8 sz8 z3 s3_0 s3_1 s3_2 g8_0
 obtain ⟨⟨⟨hB, z0, s0_0, s0_1, s0_2, z1, s1_0, s1_1, s1_2, Q0_0, Q0_1, Q1_1, Q1_2⟩, g5_0⟩, sz6, bE, ow7, sz7, z2, s2_0, s2_1, s2_2, g7_0, g7_1, ow8, sz8, z3, s3_0, s3_1, s3_2, g8_0⟩ := HK14.out _ (Below.refl _ _)
 have le6_14 := sz6
 have le7_14 := sz7
 have le8_14 := sz8
 go_wp2_with fail
 refine (markState_k w5 _ _ _ _ _ _ _ bE (Kd.R_mono ow7.out.1 (fun k hk => And.intro hk.1 hk.2.2)) (Kd.R_mono ow7.out.2 (fun k hk => And.intro hk.1 hk.2.2)) SM_u3_0_1.out SM_u3_0_2.out _ (by have := HR14.out; have := SM_u3_0_1.out; have := SM_u3_0_2.out; omega) (by have := HR14.out; have := SM_u3_0_1.out; have := SM_u3_0_2.out; omega)).mono ?_
 rintro e w15 ⟨rfl, hm0, hm1, hb, hk⟩
 have hqw15 := (decide_eq_false (by have := HR14.out; have := SM_u3_0_1.out; have := SM_u3_0_2.out; omega) : decide (((kx14 + (u3_0_1.length : Int)) + (u3_0_2.length : Int)) < 0) = false)
 have B15 := Aside0.mk hb
 replace sz6 := Nat.le_trans sz6 hk.1
 replace bE := hb
 replace sz7 := Nat.le_trans sz7 hk.1
 replace ow8 := Aside0.mk (Kd.R_kept ow8.out hk (fun k h2 h3 => absurd (Nat.lt_of_lt_of_le h3 (Nat.le_trans (Nat.le_refl _) h2.2.1)) (Nat.lt_irrefl _)))
 replace sz8 := Nat.le_trans sz8 hk.1
 replace z3 := Nat.lt_of_lt_of_le z3 hk.1
 replace s3_0 := cell_kept s3_0 hk (fun h3 => absurd (Nat.lt_of_lt_of_le h3 (Nat.le_refl _)) (Nat.lt_irrefl _))
 replace s3_1 := cell_kept s3_1 hk (fun h3 => absurd (Nat.lt_of_lt_of_le h3 (Nat.le_refl _)) (Nat.lt_irrefl _))
 replace s3_2 := cell_kept s3_2 hk (fun h3 => absurd (Nat.lt_of_lt_of_le h3 (Nat.le_refl _)) (Nat.lt_irrefl _))
 replace g8_0 := Aside0.mk (And.intro g8_0.out.1 (Kd.R_reads' ow8.out).2.2)
 clear hB z0 s0_0 s0_1 s0_2 z1 s1_0 s1_1 s1_2 Q0_0 Q0_1 Q1_1 Q1_2 g5_0 ow7 z2 s2_0 s2_1 s2_2 g7_0 g7_1 hk
 have HK15 := Aside0.mk fun (W : World) (hA : Below w15.heap.size w15 W) => And.intro (HK5.out W (B15.out.trans (hA.mono B15.out.size))) (And.intro (Nat.le_trans sz6 hA.size) (And.intro (bE.trans (hA.mono bE.size)) (And.intro (Nat.le_trans sz7 hA.size) (And.intro (Aside0.mk (Kd.R_below ow8.out hA)) (And.intro (Nat.le_trans sz8 hA.size) (And.intro (Nat.lt_of_lt_of_le z3 hA.size) (And.intro (kcell hA s3_0) (And.intro (kcell hA s3_1) (And.intro (kcell hA s3_2) ((Aside0.mk (And.intro g8_0.out.1 (Kd.C_below g8_0.out.2 hA)))))))))))))
 clear sz6 bE sz7 ow8 sz8 z3 s3_0 s3_1 s3_2 g8_0 hm0 hm1
 obtain ⟨⟨⟨hB, z0, s0_0, s0_1, s0_2, z1, s1_0, s1_1, s1_2, Q0_0, Q0_1, Q1_1, Q1_2⟩, g5_0⟩, sz6, bE, sz7, ow8, sz8, z3, s3_0, s3_1, s3_2, g8_0⟩ := HK15.out _ (Below.refl _ _)
 have le6_15 := sz6
 have le7_15 := sz7
 have le8_15 := sz8
 go_wp2_with fail
 refine (laws_eqIntS.calls (2 ^ 64) X8_0 x8_0 u5_0 X5_0 x5_0 u5_0 true _ g8_0.out.2 g8_0.out.1 g5_0.out.2 g5_0.out.1 (eqIntS_refl _ (g8_0.out.2.2).1 (2 ^ 64) (Nat.le_refl _))).mono ?_
 rintro e w16 ⟨rfl, hd⟩
 have hb := hd.below
 clear hd; have B16 := Aside0.mk hb; clear hB z0 s0_0 s0_1 s0_2 z1 s1_0 s1_1 s1_2 Q0_0 Q0_1 Q1_1 Q1_2 g5_0 sz6 bE sz7 ow8 sz8 z3 s3_0 s3_1 s3_2 g8_0 hb
 have HK16 := Aside0.mk fun (W : World) (hA : Below w16.heap.size w16 W) => HK15.out W (B16.out.trans (hA.mono B16.out.size))
 obtain ⟨⟨⟨hB, z0, s0_0, s0_1, s0_2, z1, s1_0, s1_1, s1_2, Q0_0, Q0_1, Q1_1, Q1_2⟩, g5_0⟩, sz6, bE, sz7, ow8, sz8, z3, s3_0, s3_1, s3_2, g8_0⟩ := HK16.out _ (Below.refl _ _)
 have le6_16 := sz6
 have le7_16 := sz7
 have le8_16 := sz8
 go_wp2_with fail
 refine (markIntS_k w5 _ _ _ _ bE (Kd.R_mono ow8.out (fun k hk => hk.2.2)) SM_u5_0.out _ (by have := HR14.out; have := SM_u3_0_1.out; have := SM_u3_0_2.out; have := SM_u5_0.out; omega) (by have := HR14.out; have := SM_u3_0_1.out; have := SM_u3_0_2.out; have := SM_u5_0.out; omega)).mono ?_
 rintro e w17 ⟨rfl, hm0, hb, hk⟩
 have hqw17 := (decide_eq_false (by have := HR14.out; have := SM_u3_0_1.out; have := SM_u3_0_2.out; have := SM_u5_0.out; omega) : decide ((1 + (u5_0.length : Int)) < 0) = false)
 have B17 := Aside0.mk hb
 replace sz6 := Nat.le_trans sz6 hk.1
 replace bE := hb
 replace sz7 := Nat.le_trans sz7 hk.1
 replace ow8 := Aside0.mk hm0
 replace sz8 := Nat.le_trans sz8 hk.1
 replace g8_0 := Aside0.mk (marked_reads hm0)
 clear hB z0 s0_0 s0_1 s0_2 z1 s1_0 s1_1 s1_2 Q0_0 Q0_1 Q1_1 Q1_2 g5_0 z3 s3_0 s3_1 s3_2 hk
 have HK17 := Aside0.mk fun (W : World) (hA : Below w17.heap.size w17 W) => And.intro (HK5.out W (B17.out.trans (hA.mono B17.out.size))) (And.intro (Nat.le_trans sz6 hA.size) (And.intro (bE.trans (hA.mono bE.size)) (And.intro (Nat.le_trans sz7 hA.size) (And.intro (Aside0.mk (Kd.R_below ow8.out hA)) (And.intro (Nat.le_trans sz8 hA.size) ((Aside0.mk (And.intro g8_0.out.1 (Kd.C_below g8_0.out.2 hA)))))))))
 clear sz6 bE sz7 ow8 sz8 g8_0 hm0
 obtain ⟨⟨⟨hB, z0, s0_0, s0_1, s0_2, z1, s1_0, s1_1, s1_2, Q0_0, Q0_1, Q1_1, Q1_2⟩, g5_0⟩, sz6, bE, sz7, ow8, sz8, g8_0⟩ := HK17.out _ (Below.refl _ _)
 have le6_17 := sz6
 have le7_17 := sz7
 have le8_17 := sz8
 go_wp2_with fail
 refine (heldIntS_k _ _ _ _ _ g8_0.out.2 g8_0.out.1 SM_u5_0.out (by have := SM_u5_0.out; omega) (by have := SM_u5_0.out; omega)).mono ?_
 rintro e w18 ⟨rfl, hb⟩
 have B18 := Aside0.mk hb; clear hB z0 s0_0 s0_1 s0_2 z1 s1_0 s1_1 s1_2 Q0_0 Q0_1 Q1_1 Q1_2 g5_0 sz6 bE sz7 ow8 sz8 g8_0 hb
 have HK18 := Aside0.mk fun (W : World) (hA : Below w18.heap.size w18 W) => HK17.out W (B18.out.trans (hA.mono B18.out.size))
 obtain ⟨⟨⟨hB, z0, s0_0, s0_1, s0_2, z1, s1_0, s1_1, s1_2, Q0_0, Q0_1, Q1_1, Q1_2⟩, g5_0⟩, sz6, bE, sz7, ow8, sz8, g8_0⟩ := HK18.out _ (Below.refl _ _)
 have le6_18 := sz6
 have le7_18 := sz7
 have le8_18 := sz8
 go_wp2_with fail
 go_region_held3 (fun w' => Below w18.heap.size w18 w' ∧ w'.cell? ⟨w.heap.size, 0, none⟩ = some (.slice A0_0 l0_0.length c0_0) ∧ w'.cell? ⟨w.heap.size, 1, none⟩ = some (.slice A0_1 l0_1.length c0_1) ∧ w'.cell? ⟨w.heap.size, 2, none⟩ = some (.int .i64 a0_2) ∧ w'.cell? ⟨w.heap.size + 1, 0, none⟩ = some (.int .i64 a1_0) ∧ w'.cell? ⟨w.heap.size + 1, 1, none⟩ = some (.slice A1_1 l1_1.length c1_1) ∧ w'.cell? ⟨w.heap.size + 1, 2, none⟩ = some (.slice A1_2 l1_2.length c1_2))
  (first | (refine ⟨by repeat (first | (with_reducible first | exact Below.refl _ _ | apply below_alloc | apply pw_below_drewN | apply below_drew1 | exact (‹Below w18.heap.size w18 _ ∧ _› : Below w18.heap.size w18 _ ∧ _).1) | exact Below.refl _ _), ?_⟩; go_simp; done) | (have HQ_ := HK18.out _ (below_step (‹Below w18.heap.size w18 _ ∧ _› : Below w18.heap.size w18 _ ∧ _).1 hb); exact ⟨below_step (‹Below w18.heap.size w18 _ ∧ _› : Below w18.heap.size w18 _ ∧ _).1 hb, HQ_.1.1.2.2.1, HQ_.1.1.2.2.2.1, HQ_.1.1.2.2.2.2.1, HQ_.1.1.2.2.2.2.2.2.1, HQ_.1.1.2.2.2.2.2.2.2.1, HQ_.1.1.2.2.2.2.2.2.2.2.1⟩))
  (first | (go_at_call 18; (refine (laws_toShow.c k A0_0 c0_0 l0_0 A0_1 c0_1 l0_1 a0_2 _ _ _ _ ?s19_0 ?s19_1 ?s19_2 ?s19_3 HF2.out).mono ?_); (case s19_0 => exact (HK18.out _ (‹Below w18.heap.size w18 _ ∧ _› : Below w18.heap.size w18 _ ∧ _).1).1.1.2.2.2.2.2.2.2.2.2.1.out.2); (case s19_1 => exact (HK18.out _ (‹Below w18.heap.size w18 _ ∧ _› : Below w18.heap.size w18 _ ∧ _).1).1.1.2.2.2.2.2.2.2.2.2.1.out.1); (case s19_2 => exact (HK18.out _ (‹Below w18.heap.size w18 _ ∧ _› : Below w18.heap.size w18 _ ∧ _).1).1.1.2.2.2.2.2.2.2.2.2.2.1.out.2); (case s19_3 => exact (HK18.out _ (‹Below w18.heap.size w18 _ ∧ _› : Below w18.heap.size w18 _ ∧ _).1).1.1.2.2.2.2.2.2.2.2.2.2.1.out.1); rintro e w19 ⟨X19_0, x19_0, X19_1, x19_1, rfl, g19_0, g19_1, hb⟩) | (go_at_call 40; (refine (laws_toState.c k a1_0 A1_1 c1_1 l1_1 A1_2 c1_2 l1_2 _ _ _ _ ?s20_0 ?s20_1 ?s20_2 ?s20_3 HF3.out).mono ?_); (case s20_0 => exact (HK18.out _ (‹Below w18.heap.size w18 _ ∧ _› : Below w18.heap.size w18 _ ∧ _).1).1.1.2.2.2.2.2.2.2.2.2.2.2.1.out.2); (case s20_1 => exact (HK18.out _ (‹Below w18.heap.size w18 _ ∧ _› : Below w18.heap.size w18 _ ∧ _).1).1.1.2.2.2.2.2.2.2.2.2.2.2.1.out.1); (case s20_2 => exact (HK18.out _ (‹Below w18.heap.size w18 _ ∧ _› : Below w18.heap.size w18 _ ∧ _).1).1.1.2.2.2.2.2.2.2.2.2.2.2.2.out.2); (case s20_3 => exact (HK18.out _ (‹Below w18.heap.size w18 _ ∧ _› : Below w18.heap.size w18 _ ∧ _).1).1.1.2.2.2.2.2.2.2.2.2.2.2.2.out.1); rintro e w20 ⟨X20_0, x20_0, X20_1, x20_1, rfl, g20_0, g20_1, hb⟩; replace g19_0 := Aside0.mk (And.intro g19_0.out.1 (Kd.C_below g19_0.out.2 hb)); replace g19_1 := Aside0.mk (And.intro g19_1.out.1 (Kd.C_below g19_1.out.2 hb))) | (go_at_call 52; (refine (impl_ActiveTies.c k X19_0 x19_0 u2_0_0 X19_1 x19_1 u2_0_1 u2_0_2 u3_0_0 X20_0 x20_0 u3_0_1 X20_1 x20_1 u3_0_2 _ _ ?s21_0 ?s21_1 ?s21_2 ?s21_3 ?s21_4 ?s21_5 ?s21_6 ?s21_7 HF5.out).mono ?_); (case s21_0 => exact g19_0.out.2); (case s21_1 => exact g19_0.out.1); (case s21_2 => exact g19_1.out.2); (case s21_3 => exact g19_1.out.1); (case s21_4 => exact g20_0.out.2); (case s21_5 => exact g20_0.out.1); (case s21_6 => exact g20_1.out.2); (case s21_7 => exact g20_1.out.1); rintro e w21 ⟨X21_0, x21_0, rfl, g21_0, hb⟩; replace g19_0 := Aside0.mk (And.intro g19_0.out.1 (Kd.C_below g19_0.out.2 hb)); replace g19_1 := Aside0.mk (And.intro g19_1.out.1 (Kd.C_below g19_1.out.2 hb)); replace g20_0 := Aside0.mk (And.intro g20_0.out.1 (Kd.C_below g20_0.out.2 hb)); replace g20_1 := Aside0.mk (And.intro g20_1.out.1 (Kd.C_below g20_1.out.2 hb))))
 have B21 := Aside0.mk (‹Below w18.heap.size w18 w21 ∧ _› : Below w18.heap.size w18 w21 ∧ _).1
 clear hB z0 s0_0 s0_1 s0_2 z1 s1_0 s1_1 s1_2 Q0_0 Q0_1 Q1_1 Q1_2 g5_0 sz6 bE sz7 ow8 sz8 g8_0
 have HK21 := Aside0.mk fun (W : World) (hA : Below w21.heap.size w21 W) => And.intro (HK18.out W (B21.out.trans (hA.mono B21.out.size))) ((Aside0.mk (And.intro g21_0.out.1 (Kd.C_below g21_0.out.2 hA))))
 clear g21_0
 obtain ⟨⟨⟨⟨hB, z0, s0_0, s0_1, s0_2, z1, s1_0, s1_1, s1_2, Q0_0, Q0_1, Q1_1, Q1_2⟩, g5_0⟩, sz6, bE, sz7, ow8, sz8, g8_0⟩, g21_0⟩ := HK21.out _ (Below.refl _ _)
 have le6_21 := sz6
 have le7_21 := sz7
 have le8_21 := sz8
 go_wp2_with fail
 refine (laws_eqIntS.calls (2 ^ 64) X21_0 x21_0 u5_0 X5_0 x5_0 u5_0 true _ g21_0.out.2 g21_0.out.1 g5_0.out.2 g5_0.out.1 (eqIntS_refl _ (g21_0.out.2.2).1 (2 ^ 64) (Nat.le_refl _))).mono ?_
 rintro e w22 ⟨rfl, hd⟩
 have hb := hd.below
 clear hd; have B22 := Aside0.mk hb; clear hB z0 s0_0 s0_1 s0_2 z1 s1_0 s1_1 s1_2 Q0_0 Q0_1 Q1_1 Q1_2 g5_0 sz6 bE sz7 ow8 sz8 g8_0 g21_0 hb
 have HK22 := Aside0.mk fun (W : World) (hA : Below w22.heap.size w22 W) => HK21.out W (B22.out.trans (hA.mono B22.out.size))
 obtain ⟨⟨⟨⟨hB, z0, s0_0, s0_1, s0_2, z1, s1_0, s1_1, s1_2, Q0_0, Q0_1, Q1_1, Q1_2⟩, g5_0⟩, sz6, bE, sz7, ow8, sz8, g8_0⟩, g21_0⟩ := HK22.out _ (Below.refl _ _)
 have le6_22 := sz6
 have le7_22 := sz7
 have le8_22 := sz8
 go_wp2_with fail
 refine (heldIntS_k _ _ _ _ _ g8_0.out.2 g8_0.out.1 SM_u5_0.out (by have := SM_u5_0.out; omega) (by have := SM_u5_0.out; omega)).mono ?_
 rintro e w23 ⟨rfl, hb⟩
 have B23 := Aside0.mk hb; clear hB z0 s0_0 s0_1 s0_2 z1 s1_0 s1_1 s1_2 Q0_0 Q0_1 Q1_1 Q1_2 g5_0 sz6 bE sz7 ow8 sz8 g8_0 g21_0 hb
 have HK23 := Aside0.mk fun (W : World) (hA : Below w23.heap.size w23 W) => HK22.out W (B23.out.trans (hA.mono B23.out.size))
 obtain ⟨⟨⟨⟨hB, z0, s0_0, s0_1, s0_2, z1, s1_0, s1_1, s1_2, Q0_0, Q0_1, Q1_1, Q1_2⟩, g5_0⟩, sz6, bE, sz7, ow8, sz8, g8_0⟩, g21_0⟩ := HK23.out _ (Below.refl _ _)
 have le6_23 := sz6
 have le7_23 := sz7
 have le8_23 := sz8
 go_wp2
 go_ret
 exact ⟨rfl, (HK23.out _ (Below.refl _ _)).1.1.1.1⟩

end Go.Proofs.Ytodfnelilhjoeaa.Pr

namespace Go.Proofs.Ytodfnelilhjoeaa.Pr
open Go.RowKit Go.Proofs.YtodfnelilhjoeaaW.PrintWords Go.Proofs.YtodfnelilhjoeaaW.PrintLast Go.Proofs.YtodfnelilhjoeaaW.PrintMore
attribute [local go_sem] max2_int min2_int max_two min_two max_three min_three max_four min_four
set_option linter.unusedVariables false
set_option linter.unusedSimpArgs false

def laws_FnExactActiveTies.Pure : Prop := ∀ (y0 : S25) (y1 : S63), okS25 y0 → okS63 y1 → ∃ k, laws_FnExactActiveTies.f k y0.f0 y0.f1 y0.f2 y1.f0 y1.f1 y1.f2 = some true
end Go.Proofs.Ytodfnelilhjoeaa.Pr

set_option linter.unusedSimpArgs false
namespace Go.Proofs.Ytodfnelilhjoeaa.Pure
open Go.RowKit Go.Proofs.Ytodfnelilhjoeaa.Pr Go.Proofs.Ytodfnelilhjoeaa.Ni Go.Proofs.YtodfnelilhjoeaaW.PrintWords Go.Proofs.YtodfnelilhjoeaaW.PrintMore
theorem FnExactActiveTies : laws_FnExactActiveTies.Pure := by
 rintro ⟨ns, ts, z⟩ ⟨now, tm, vs⟩ ⟨⟨hn, hb⟩, ⟨ht, _⟩, _⟩ ⟨hnow, ⟨htm, _⟩, ⟨hvs, _⟩⟩
 simp only [maxLen] at hn ht htm hvs
 have hnow' := wf_i64 hnow
 refine ⟨2 ^ 70, ?_⟩
 unfold laws_FnExactActiveTies.f
 obtain ⟨r, hr, h⟩ := szShow_f ns ts z hn (fun n hn => by have := hb n hn; exact ⟨by simpa [maxLen] using this.1, by simpa [maxLen] using this.2.1.1⟩) ht (2 ^ 70) (by omega) 1048576 (by omega) (by omega)
 rw [hr, Option.bind_some]
 rcases h with h | ⟨h0, h1, h⟩
 ·rw [if_pos h]
 rw [if_neg (by omega)]
 have hc := h.cv
 obtain ⟨r2, hr2, h2⟩ := szState_f now tm vs (by omega) (by omega) r (by omega) (by omega)
 rw [hr2, Option.bind_some]
 rcases h2 with h2 | ⟨_, _, h6, h7⟩
 ·rw [if_pos h2]
 rw [if_neg (by omega)]
 have hlen := Nat.le_trans (actB_len (ns.map cvN) (ts.map cvT) z now tm vs) hc.2.1
 have hsm := smallB_of hc
 simp only [toShow_f ns ts z h (2 ^ 70) (by omega), toState_f now tm vs (by omega) (by omega) (2 ^ 70) (by omega), spec_ActiveTies_f (ts := ts.map cvT) (z := z) now tm vs hc hnow'.2 (by omega) (2 ^ 70) (by omega), impl_ActiveTies_f (ts := ts.map cvT) (z := z) now tm vs hc hnow'.2 (2 ^ 70) (by omega), hsm, hlen, h6, h7, Option.bind_some, if_true]
end Go.Proofs.Ytodfnelilhjoeaa.Pure

