/- The texts of one claim, put together by a program of this session. -/
import Derived.Deep.RegionHeld3
import Derived.Test.YtodfnelilhjoeaaBFrc1x1
import Derived.Test.YtodfnelilhjoeaaBFrc1x2
import Derived.Test.YtodfnelilhjoeaaBFrc1x9
import Derived.Test.YtodfnelilhjoeaaBFrc2x1
namespace Go.Proofs.Ytodfnelilhjoeaa.Pr
open Go.RowKit Go.Proofs.YtodfnelilhjoeaaW.PrintWords Go.Proofs.YtodfnelilhjoeaaW.PrintLast Go.Proofs.YtodfnelilhjoeaaW.PrintMore
attribute [local go_sem] max2_int min2_int max_two min_two max_three min_three max_four min_four
set_option linter.unusedVariables false
set_option linter.unusedSimpArgs false

-- IMPORT Derived.Test.YtodfnelilhjoeaaQNice
-- IMPORT Derived.Test.YtodfnelilhjoeaaUIntS
-- IMPORT Derived.Deep.RegionHeld3
-- IMPORT Derived.Test.YtodfnelilhjoeaaUMarkT
open Go.Proofs.Ytodfnelilhjoeaa.Ni
/-! ### laws_FnExactChosenNodes: function 4 -/
def laws_FnExactChosenNodes.f (k : Nat) (l0_0 : List (S127)) (l0_1 : List (S130)) (a0_2 : Int) : Option (Bool) := ((laws_szShow.f k l0_0 l0_1 a0_2 1048576).bind fun u0_0 => (if u0_0 < 0 then some true else ((laws_toShow.f k l0_0 l0_1 a0_2).bind fun b1 => (if smallB b1.1 b1.2.1 = true then ((spec_ChosenNodes.f k b1.1 b1.2.1 b1.2.2).bind fun u2_0 => ((impl_ChosenNodes.f k b1.1 b1.2.1 b1.2.2).bind fun u3_0 => (if u3_0 = u2_0 then (if u3_0.length ≤ 1048576 then (some true) else some false) else some false))) else some false))))
set_option maxHeartbeats 8000000 in
set_option maxRecDepth 100000 in
theorem laws_FnExactChosenNodes.calls (k : Nat) (A0_0 : Option Addr) (c0_0 : Nat) (l0_0 : List (S127)) (A0_1 : Option Addr) (c0_1 : Nat) (l0_1 : List (S130)) (a0_2 : Int) (w : World) (hr0_0 : Kd.C k127 w A0_0 l0_0.length l0_0) (hc0_0 : l0_0.length ≤ c0_0) (hr0_1 : Kd.C k130 w A0_1 l0_1.length l0_1) (hc0_1 : l0_1.length ≤ c0_1) (h : laws_FnExactChosenNodes.f k l0_0 l0_1 a0_2 = some true) :
    Calls Try.prog 4 #[.agg #[.slice A0_0 l0_0.length c0_0, .slice A0_1 l0_1.length c0_1, .int .i64 a0_2]] w fun e w' => e = .returned (.bool true) ∧ Below w.heap.size w w' := by
  unfold laws_FnExactChosenNodes.f at h
  have hv35 := Try.underlying35
  replace h := Option.bind_eq_some_iff.1 h
  obtain ⟨u0_0, HF0, h⟩ := h
  (try dsimp only at h)
  replace HF0 := Aside0.mk HF0
  by_cases hcn0 : u0_0 < 0
  case pos =>
    have hq0 : decide (u0_0 < 0) = true := decide_eq_true hcn0
    clear h hcn0
    have hu25 := Try.underlying25
    have HB0 := Aside0.mk (below_alloc (Below.refl w.heap.size w) (.cells #[.slice A0_0 l0_0.length c0_0, .slice A0_1 l0_1.length c0_1, .int .i64 a0_2] 25))
    have Q0_0 := Aside0.mk (And.intro hc0_0 (Kd.C_below hr0_0 HB0.out))
    have Q0_1 := Aside0.mk (And.intro hc0_1 (Kd.C_below hr0_1 HB0.out))
    clear hr0_0 hc0_0 hr0_1 hc0_1
    go_enter Try.func4, Try.ntmps4
    go_wp2_with fail
    refine (laws_szShow.calls k A0_0 c0_0 l0_0 A0_1 c0_1 l0_1 a0_2 1048576 _ _ Q0_0.out.2 Q0_0.out.1 Q0_1.out.2 Q0_1.out.1 HF0.out).mono ?_
    rintro e w1 ⟨rfl, hb⟩
    have HB1 := Aside0.mk (HB0.out.trans (hb.mono HB0.out.size))
    have z0 : w.heap.size < w1.heap.size := Nat.lt_of_lt_of_le (by simp <;> omega) hb.size
    have s0_0 : w1.cell? ⟨w.heap.size, 0, none⟩ = some (.slice A0_0 l0_0.length c0_0) := kcell hb (by go_simp)
    have s0_1 : w1.cell? ⟨w.heap.size, 1, none⟩ = some (.slice A0_1 l0_1.length c0_1) := kcell hb (by go_simp)
    have s0_2 : w1.cell? ⟨w.heap.size, 2, none⟩ = some (.int .i64 a0_2) := kcell hb (by go_simp)
    replace Q0_0 := Aside0.mk (And.intro Q0_0.out.1 (Kd.C_below Q0_0.out.2 hb))
    replace Q0_1 := Aside0.mk (And.intro Q0_1.out.1 (Kd.C_below Q0_1.out.2 hb))
    have HK1 := Aside0.mk fun (W : World) (hA : Below w1.heap.size w1 W) => And.intro (HB1.out.trans (hA.mono HB1.out.size)) (And.intro (Nat.lt_of_lt_of_le z0 hA.size) (And.intro (kcell hA s0_0) (And.intro (kcell hA s0_1) (And.intro (kcell hA s0_2) (And.intro (Aside0.mk (And.intro Q0_0.out.1 (Kd.C_below Q0_0.out.2 hA))) ((Aside0.mk (And.intro Q0_1.out.1 (Kd.C_below Q0_1.out.2 hA)))))))))
    clear z0 s0_0 s0_1 s0_2 Q0_0 Q0_1 hb
    obtain ⟨hB, z0, s0_0, s0_1, s0_2, Q0_0, Q0_1⟩ := HK1.out _ (Below.refl _ _)
    go_wp2
    go_ret
    exact ⟨rfl, (HK1.out _ (Below.refl _ _)).1⟩
  rw [if_neg hcn0] at h
  have hq0 : decide (u0_0 < 0) = false := decide_eq_false hcn0
  clear hcn0
  replace h := Option.bind_eq_some_iff.1 h
  obtain ⟨⟨u1_0_0, u1_0_1, u1_0_2⟩, HF1, h⟩ := h
  (try dsimp only at h)
  replace HF1 := Aside0.mk HF1
  by_cases ht43 : smallB u1_0_0 u1_0_1 = true
  case neg => rw [if_neg ht43] at h; exact absurd h (by simp)
  rw [if_pos ht43] at h
  have SM_u1_0_0 := Aside0.mk (smallB_iff ht43)
  clear ht43
  replace h := Option.bind_eq_some_iff.1 h
  obtain ⟨u2_0, HF2, h⟩ := h
  (try dsimp only at h)
  replace HF2 := Aside0.mk HF2
  replace h := Option.bind_eq_some_iff.1 h
  obtain ⟨u3_0, HF3, h⟩ := h
  (try dsimp only at h)
  replace HF3 := Aside0.mk HF3
  by_cases ht56 : u3_0 = u2_0
  case neg => rw [if_neg ht56] at h; exact absurd h (by simp)
  rw [if_pos ht56] at h
  subst ht56
  by_cases ht60 : u3_0.length ≤ 1048576
  case neg => rw [if_neg ht60] at h; exact absurd h (by simp)
  rw [if_pos ht60] at h
  have SM_u3_0 := Aside0.mk (ht60)
  clear ht60
  clear h
  have hu25 := Try.underlying25
  have HB0 := Aside0.mk (below_alloc (Below.refl w.heap.size w) (.cells #[.slice A0_0 l0_0.length c0_0, .slice A0_1 l0_1.length c0_1, .int .i64 a0_2] 25))
  have Q0_0 := Aside0.mk (And.intro hc0_0 (Kd.C_below hr0_0 HB0.out))
  have Q0_1 := Aside0.mk (And.intro hc0_1 (Kd.C_below hr0_1 HB0.out))
  clear hr0_0 hc0_0 hr0_1 hc0_1
  go_enter Try.func4, Try.ntmps4
  go_wp2_with fail
  refine (laws_szShow.calls k A0_0 c0_0 l0_0 A0_1 c0_1 l0_1 a0_2 1048576 _ _ Q0_0.out.2 Q0_0.out.1 Q0_1.out.2 Q0_1.out.1 HF0.out).mono ?_
  rintro e w1 ⟨rfl, hb⟩
  have HB1 := Aside0.mk (HB0.out.trans (hb.mono HB0.out.size))
  have z0 : w.heap.size < w1.heap.size := Nat.lt_of_lt_of_le (by simp <;> omega) hb.size
  have s0_0 : w1.cell? ⟨w.heap.size, 0, none⟩ = some (.slice A0_0 l0_0.length c0_0) := kcell hb (by go_simp)
  have s0_1 : w1.cell? ⟨w.heap.size, 1, none⟩ = some (.slice A0_1 l0_1.length c0_1) := kcell hb (by go_simp)
  have s0_2 : w1.cell? ⟨w.heap.size, 2, none⟩ = some (.int .i64 a0_2) := kcell hb (by go_simp)
  replace Q0_0 := Aside0.mk (And.intro Q0_0.out.1 (Kd.C_below Q0_0.out.2 hb))
  replace Q0_1 := Aside0.mk (And.intro Q0_1.out.1 (Kd.C_below Q0_1.out.2 hb))
  have HK1 := Aside0.mk fun (W : World) (hA : Below w1.heap.size w1 W) => And.intro (HB1.out.trans (hA.mono HB1.out.size)) (And.intro (Nat.lt_of_lt_of_le z0 hA.size) (And.intro (kcell hA s0_0) (And.intro (kcell hA s0_1) (And.intro (kcell hA s0_2) (And.intro (Aside0.mk (And.intro Q0_0.out.1 (Kd.C_below Q0_0.out.2 hA))) ((Aside0.mk (And.intro Q0_1.out.1 (Kd.C_below Q0_1.out.2 hA)))))))))
  clear z0 s0_0 s0_1 s0_2 Q0_0 Q0_1 hb
  obtain ⟨hB, z0, s0_0, s0_1, s0_2, Q0_0, Q0_1⟩ := HK1.out _ (Below.refl _ _)
  go_wp2_with fail
  refine (laws_toShow.c k A0_0 c0_0 l0_0 A0_1 c0_1 l0_1 a0_2 _ _ _ _ Q0_0.out.2 Q0_0.out.1 Q0_1.out.2 Q0_1.out.1 HF1.out).mono ?_
  rintro e w2 ⟨X2_0, x2_0, X2_1, x2_1, rfl, g2_0, g2_1, hb⟩
  have B2 := Aside0.mk hb
  clear hB z0 s0_0 s0_1 s0_2 Q0_0 Q0_1 hb
  have HK2 := Aside0.mk fun (W : World) (hA : Below w2.heap.size w2 W) => And.intro (HK1.out W (B2.out.trans (hA.mono B2.out.size))) (And.intro (Aside0.mk (And.intro g2_0.out.1 (Kd.C_below g2_0.out.2 hA))) ((Aside0.mk (And.intro g2_1.out.1 (Kd.C_below g2_1.out.2 hA)))))
  clear g2_0 g2_1
  obtain ⟨⟨hB, z0, s0_0, s0_1, s0_2, Q0_0, Q0_1⟩, g2_0, g2_1⟩ := HK2.out _ (Below.refl _ _)
  go_wp2_with fail
  refine (spec_ChosenNodes.c k X2_0 x2_0 u1_0_0 X2_1 x2_1 u1_0_1 u1_0_2 _ _ g2_0.out.2 g2_0.out.1 g2_1.out.2 g2_1.out.1 HF2.out).mono ?_
  rintro e w3 ⟨X3_0, x3_0, rfl, g3_0, hb⟩
  have B3 := Aside0.mk hb
  clear hB z0 s0_0 s0_1 s0_2 Q0_0 Q0_1 g2_0 g2_1 hb
  have HK3 := Aside0.mk fun (W : World) (hA : Below w3.heap.size w3 W) => And.intro (HK2.out W (B3.out.trans (hA.mono B3.out.size))) ((Aside0.mk (And.intro g3_0.out.1 (Kd.C_below g3_0.out.2 hA))))
  clear g3_0
  obtain ⟨⟨⟨hB, z0, s0_0, s0_1, s0_2, Q0_0, Q0_1⟩, g2_0, g2_1⟩, g3_0⟩ := HK3.out _ (Below.refl _ _)
  go_wp2_with fail
  refine (laws_toShow.o k A0_0 c0_0 l0_0 A0_1 c0_1 l0_1 a0_2 _ _ _ _ Q0_0.out.2 Q0_0.out.1 Q0_1.out.2 Q0_1.out.1 HF1.out).mono ?_
  rintro e w4 ⟨X4_0, x4_0, X4_1, x4_1, rfl, g4_0, g4_1, ow4, hb⟩
  have B4 := Aside0.mk hb
  replace ow4 := Aside0.mk (And.intro (Kd.S_lower (Kd.S_mono ow4.out.1 (fun k hk => And.intro hk.1 (And.intro (Nat.le_trans (Nat.le_refl _) hk.2.1) hk.2.2))) (Nat.le_refl _)) (Kd.R_lower (Kd.R_mono ow4.out.2 (fun k hk => And.intro hk.1 (And.intro (Nat.le_trans (Nat.le_refl _) hk.2.1) hk.2.2))) (Nat.le_refl _)))
  have sz4 := Nat.le_refl w4.heap.size
  have bE := B4.out
  clear hB z0 s0_0 s0_1 s0_2 Q0_0 Q0_1 g2_0 g2_1 g3_0 hb
  have HK4 := Aside0.mk fun (W : World) (hA : Below w4.heap.size w4 W) => And.intro (HK3.out W (B4.out.trans (hA.mono B4.out.size))) (And.intro (Aside0.mk (And.intro (Kd.S_below ow4.out.1 hA) (Kd.R_below ow4.out.2 hA))) (And.intro (Nat.le_trans sz4 hA.size) (And.intro (bE.trans (hA.mono bE.size)) (And.intro (Aside0.mk (And.intro g4_0.out.1 (Kd.C_below g4_0.out.2 hA))) ((Aside0.mk (And.intro g4_1.out.1 (Kd.C_below g4_1.out.2 hA))))))))
  clear ow4 sz4 bE g4_0 g4_1
  obtain ⟨⟨⟨⟨hB, z0, s0_0, s0_1, s0_2, Q0_0, Q0_1⟩, g2_0, g2_1⟩, g3_0⟩, ow4, sz4, bE, g4_0, g4_1⟩ := HK4.out _ (Below.refl _ _)
  go_wp2_with fail
  refine (impl_ChosenNodes.o k X4_0 x4_0 u1_0_0 X4_1 x4_1 u1_0_1 u1_0_2 _ _ (Kd.C_below g4_0.out.2 (below_alloc (Below.refl _ _) _)) g4_0.out.1 (Kd.C_below g4_1.out.2 (below_alloc (Below.refl _ _) _)) g4_1.out.1 HF3.out).mono ?_
  rintro e w5 ⟨X5_0, x5_0, rfl, g5_0, ow5, hb⟩
  have B5 := Aside0.mk (below_step (below_alloc (Below.refl w4.heap.size w4) _) hb)
  replace ow5 := Aside0.mk (Kd.R_lower (Kd.R_mono ow5.out (fun k hk => And.intro hk.1 (And.intro (Nat.le_trans (below_alloc (Below.refl w4.heap.size w4) _).size hk.2.1) hk.2.2))) (Nat.le_trans bE.size (below_alloc (Below.refl w4.heap.size w4) _).size))
  have sz5 := Nat.le_refl w5.heap.size
  have z1 : w4.heap.size < w5.heap.size := Nat.lt_of_lt_of_le (by simp <;> omega) hb.size
  have s1_0 : w5.cell? ⟨w4.heap.size, 0, none⟩ = some (.slice X4_0 u1_0_0.length x4_0) := kcell hb (by go_simp)
  have s1_1 : w5.cell? ⟨w4.heap.size, 1, none⟩ = some (.slice X4_1 u1_0_1.length x4_1) := kcell hb (by go_simp)
  have s1_2 : w5.cell? ⟨w4.heap.size, 2, none⟩ = some (.int .i64 u1_0_2) := kcell hb (by go_simp)
  clear hB z0 s0_0 s0_1 s0_2 Q0_0 Q0_1 g2_0 g2_1 g3_0 ow4 sz4 bE g4_0 g4_1 hb
  have HK5 := Aside0.mk fun (W : World) (hA : Below w5.heap.size w5 W) => And.intro (HK4.out W (B5.out.trans (hA.mono B5.out.size))) (And.intro (Aside0.mk (Kd.R_below ow5.out hA)) (And.intro (Nat.le_trans sz5 hA.size) (And.intro (Nat.lt_of_lt_of_le z1 hA.size) (And.intro (kcell hA s1_0) (And.intro (kcell hA s1_1) (And.intro (kcell hA s1_2) ((Aside0.mk (And.intro g5_0.out.1 (Kd.C_below g5_0.out.2 hA))))))))))
  clear ow5 sz5 z1 s1_0 s1_1 s1_2 g5_0
  obtain ⟨⟨⟨⟨⟨hB, z0, s0_0, s0_1, s0_2, Q0_0, Q0_1⟩, g2_0, g2_1⟩, g3_0⟩, ow4, sz4, bE, g4_0, g4_1⟩, ow5, sz5, z1, s1_0, s1_1, s1_2, g5_0⟩ := HK5.out _ (Below.refl _ _)
  have le4_5 := sz4
  go_wp2_with fail
  refine (laws_eqIntS.calls (2 ^ 64) X5_0 x5_0 u3_0 X3_0 x3_0 u3_0 true _ g5_0.out.2 g5_0.out.1 g3_0.out.2 g3_0.out.1 (eqIntS_refl _ (g5_0.out.2.2).1 (2 ^ 64) (Nat.le_refl _))).mono ?_
  rintro e w6 ⟨rfl, hd⟩
  have hb := hd.below
  clear hd
  have B6 := Aside0.mk hb
  clear hB z0 s0_0 s0_1 s0_2 Q0_0 Q0_1 g2_0 g2_1 g3_0 ow4 sz4 bE g4_0 g4_1 ow5 sz5 z1 s1_0 s1_1 s1_2 g5_0 hb
  have HK6 := Aside0.mk fun (W : World) (hA : Below w6.heap.size w6 W) => HK5.out W (B6.out.trans (hA.mono B6.out.size))
  obtain ⟨⟨⟨⟨⟨hB, z0, s0_0, s0_1, s0_2, Q0_0, Q0_1⟩, g2_0, g2_1⟩, g3_0⟩, ow4, sz4, bE, g4_0, g4_1⟩, ow5, sz5, z1, s1_0, s1_1, s1_2, g5_0⟩ := HK6.out _ (Below.refl _ _)
  have le4_6 := sz4
  have le5_6 := sz5
  go_wp2_with fail
  go_region_held3 (fun w' => Below w6.heap.size w6 w' ∧ w'.cell? ⟨w4.heap.size, 0, none⟩ = some (.slice X4_0 u1_0_0.length x4_0) ∧ w'.cell? ⟨w4.heap.size, 1, none⟩ = some (.slice X4_1 u1_0_1.length x4_1) ∧ w'.cell? ⟨w4.heap.size, 2, none⟩ = some (.int .i64 u1_0_2) ∧ w'.cell? ⟨w.heap.size, 0, none⟩ = some (.slice A0_0 l0_0.length c0_0) ∧ w'.cell? ⟨w.heap.size, 1, none⟩ = some (.slice A0_1 l0_1.length c0_1) ∧ w'.cell? ⟨w.heap.size, 2, none⟩ = some (.int .i64 a0_2))
    (first | (refine ⟨by repeat (first | (with_reducible first | exact Below.refl _ _ | apply below_alloc | apply pw_below_drewN | apply below_drew1 | exact (‹Below w6.heap.size w6 _ ∧ _› : Below w6.heap.size w6 _ ∧ _).1) | exact Below.refl _ _), ?_⟩; go_simp; done) | (have HQ_ := HK6.out _ (below_step (‹Below w6.heap.size w6 _ ∧ _› : Below w6.heap.size w6 _ ∧ _).1 hb); exact ⟨below_step (‹Below w6.heap.size w6 _ ∧ _› : Below w6.heap.size w6 _ ∧ _).1 hb, HQ_.2.2.2.2.1, HQ_.2.2.2.2.2.1, HQ_.2.2.2.2.2.2.1, HQ_.1.1.1.1.2.2.1, HQ_.1.1.1.1.2.2.2.1, HQ_.1.1.1.1.2.2.2.2.1⟩))
    (first | (go_at_call 18; (refine (laws_toShow.c k A0_0 c0_0 l0_0 A0_1 c0_1 l0_1 a0_2 _ _ _ _ ?s7_0 ?s7_1 ?s7_2 ?s7_3 HF1.out).mono ?_); (case s7_0 => exact (HK6.out _ (‹Below w6.heap.size w6 _ ∧ _› : Below w6.heap.size w6 _ ∧ _).1).1.1.1.1.2.2.2.2.2.1.out.2); (case s7_1 => exact (HK6.out _ (‹Below w6.heap.size w6 _ ∧ _› : Below w6.heap.size w6 _ ∧ _).1).1.1.1.1.2.2.2.2.2.1.out.1); (case s7_2 => exact (HK6.out _ (‹Below w6.heap.size w6 _ ∧ _› : Below w6.heap.size w6 _ ∧ _).1).1.1.1.1.2.2.2.2.2.2.out.2); (case s7_3 => exact (HK6.out _ (‹Below w6.heap.size w6 _ ∧ _› : Below w6.heap.size w6 _ ∧ _).1).1.1.1.1.2.2.2.2.2.2.out.1); rintro e w7 ⟨X7_0, x7_0, X7_1, x7_1, rfl, g7_0, g7_1, hb⟩) | (go_at_call 21; (refine (laws_eqShow.same X4_0 x4_0 X7_0 x7_0 u1_0_0 X4_1 x4_1 X7_1 x7_1 u1_0_1 u1_0_2 _ ?s8_0 ?s8_1 ?s8_2 ?s8_3 ?s8_4 ?s8_5 ?s8_6 ?s8_7).mono ?_); (case s8_0 => exact (HK6.out _ (‹Below w6.heap.size w6 _ ∧ _› : Below w6.heap.size w6 _ ∧ _).1).1.2.2.2.2.1.out.2); (case s8_1 => exact (HK6.out _ (‹Below w6.heap.size w6 _ ∧ _› : Below w6.heap.size w6 _ ∧ _).1).1.2.2.2.2.1.out.1); (case s8_2 => exact g7_0.out.2); (case s8_3 => exact g7_0.out.1); (case s8_4 => exact (HK6.out _ (‹Below w6.heap.size w6 _ ∧ _› : Below w6.heap.size w6 _ ∧ _).1).1.2.2.2.2.2.out.2); (case s8_5 => exact (HK6.out _ (‹Below w6.heap.size w6 _ ∧ _› : Below w6.heap.size w6 _ ∧ _).1).1.2.2.2.2.2.out.1); (case s8_6 => exact g7_1.out.2); (case s8_7 => exact g7_1.out.1); rintro e w8 ⟨rfl, hb⟩; replace g7_0 := Aside0.mk (And.intro g7_0.out.1 (Kd.C_below g7_0.out.2 hb)); replace g7_1 := Aside0.mk (And.intro g7_1.out.1 (Kd.C_below g7_1.out.2 hb))))
  have B8 := Aside0.mk (‹Below w6.heap.size w6 w8 ∧ _› : Below w6.heap.size w6 w8 ∧ _).1
  clear hB z0 s0_0 s0_1 s0_2 Q0_0 Q0_1 g2_0 g2_1 g3_0 ow4 sz4 bE g4_0 g4_1 ow5 sz5 z1 s1_0 s1_1 s1_2 g5_0
  have HK8 := Aside0.mk fun (W : World) (hA : Below w8.heap.size w8 W) => HK6.out W (B8.out.trans (hA.mono B8.out.size))
  obtain ⟨⟨⟨⟨⟨hB, z0, s0_0, s0_1, s0_2, Q0_0, Q0_1⟩, g2_0, g2_1⟩, g3_0⟩, ow4, sz4, bE, g4_0, g4_1⟩, ow5, sz5, z1, s1_0, s1_1, s1_2, g5_0⟩ := HK8.out _ (Below.refl _ _)
  have le4_8 := sz4
  have le5_8 := sz5
  go_wp2_with fail
  refine (markShow_k w3 _ _ _ _ _ _ _ bE (Kd.S_mono ow4.out.1 (fun k hk => hk.2.2)) (Kd.R_mono ow4.out.2 (fun k hk => hk.2.2)) SM_u1_0_0.out.1 SM_u1_0_0.out.2.1 SM_u1_0_0.out.2.2 _ (by omega) (by omega)).mono ?_
  rintro e w9 ⟨kx9, rfl, HR9, hb, hk⟩
  have hqkx9 := (decide_eq_false (by have := HR9.out; omega) : decide (kx9 < 0) = false)
  have B9 := Aside0.mk hb
  replace sz4 := Nat.le_trans sz4 hk.1
  replace bE := hb
  replace ow5 := Aside0.mk (Kd.R_kept ow5.out hk (fun k h2 h3 => absurd (Nat.lt_of_lt_of_le h3 (Nat.le_trans (Nat.le_refl _) h2.2.1)) (Nat.lt_irrefl _)))
  replace sz5 := Nat.le_trans sz5 hk.1
  replace z1 := Nat.lt_of_lt_of_le z1 hk.1
  replace s1_0 := cell_kept s1_0 hk (fun h3 => absurd (Nat.lt_of_lt_of_le h3 (Nat.le_refl _)) (Nat.lt_irrefl _))
  replace s1_1 := cell_kept s1_1 hk (fun h3 => absurd (Nat.lt_of_lt_of_le h3 (Nat.le_refl _)) (Nat.lt_irrefl _))
  replace s1_2 := cell_kept s1_2 hk (fun h3 => absurd (Nat.lt_of_lt_of_le h3 (Nat.le_refl _)) (Nat.lt_irrefl _))
  replace g5_0 := Aside0.mk (And.intro g5_0.out.1 (Kd.R_reads' ow5.out).2.2)
  clear hB z0 s0_0 s0_1 s0_2 Q0_0 Q0_1 g2_0 g2_1 g3_0 ow4 g4_0 g4_1 hk
  have HK9 := Aside0.mk fun (W : World) (hA : Below w9.heap.size w9 W) => And.intro (HK3.out W (B9.out.trans (hA.mono B9.out.size))) (And.intro (Nat.le_trans sz4 hA.size) (And.intro (bE.trans (hA.mono bE.size)) (And.intro (Aside0.mk (Kd.R_below ow5.out hA)) (And.intro (Nat.le_trans sz5 hA.size) (And.intro (Nat.lt_of_lt_of_le z1 hA.size) (And.intro (kcell hA s1_0) (And.intro (kcell hA s1_1) (And.intro (kcell hA s1_2) ((Aside0.mk (And.intro g5_0.out.1 (Kd.C_below g5_0.out.2 hA))))))))))))
  clear sz4 bE ow5 sz5 z1 s1_0 s1_1 s1_2 g5_0
  obtain ⟨⟨⟨⟨hB, z0, s0_0, s0_1, s0_2, Q0_0, Q0_1⟩, g2_0, g2_1⟩, g3_0⟩, sz4, bE, ow5, sz5, z1, s1_0, s1_1, s1_2, g5_0⟩ := HK9.out _ (Below.refl _ _)
  have le4_9 := sz4
  have le5_9 := sz5
  go_wp2_with fail
  refine (laws_eqIntS.calls (2 ^ 64) X5_0 x5_0 u3_0 X3_0 x3_0 u3_0 true _ g5_0.out.2 g5_0.out.1 g3_0.out.2 g3_0.out.1 (eqIntS_refl _ (g5_0.out.2.2).1 (2 ^ 64) (Nat.le_refl _))).mono ?_
  rintro e w10 ⟨rfl, hd⟩
  have hb := hd.below
  clear hd
  have B10 := Aside0.mk hb
  clear hB z0 s0_0 s0_1 s0_2 Q0_0 Q0_1 g2_0 g2_1 g3_0 sz4 bE ow5 sz5 z1 s1_0 s1_1 s1_2 g5_0 hb
  have HK10 := Aside0.mk fun (W : World) (hA : Below w10.heap.size w10 W) => HK9.out W (B10.out.trans (hA.mono B10.out.size))
  obtain ⟨⟨⟨⟨hB, z0, s0_0, s0_1, s0_2, Q0_0, Q0_1⟩, g2_0, g2_1⟩, g3_0⟩, sz4, bE, ow5, sz5, z1, s1_0, s1_1, s1_2, g5_0⟩ := HK10.out _ (Below.refl _ _)
  have le4_10 := sz4
  have le5_10 := sz5
  go_wp2_with fail
  refine (markIntS_k w3 _ _ _ _ bE (Kd.R_mono ow5.out (fun k hk => hk.2.2)) SM_u3_0.out _ (by have := HR9.out; have := SM_u3_0.out; omega) (by have := HR9.out; have := SM_u3_0.out; omega)).mono ?_
  rintro e w11 ⟨rfl, hm0, hb, hk⟩
  have hqw11 := (decide_eq_false (by have := HR9.out; have := SM_u3_0.out; omega) : decide ((1 + (u3_0.length : Int)) < 0) = false)
  have B11 := Aside0.mk hb
  replace sz4 := Nat.le_trans sz4 hk.1
  replace bE := hb
  replace ow5 := Aside0.mk hm0
  replace sz5 := Nat.le_trans sz5 hk.1
  replace g5_0 := Aside0.mk (marked_reads hm0)
  clear hB z0 s0_0 s0_1 s0_2 Q0_0 Q0_1 g2_0 g2_1 g3_0 z1 s1_0 s1_1 s1_2 hk
  have HK11 := Aside0.mk fun (W : World) (hA : Below w11.heap.size w11 W) => And.intro (HK3.out W (B11.out.trans (hA.mono B11.out.size))) (And.intro (Nat.le_trans sz4 hA.size) (And.intro (bE.trans (hA.mono bE.size)) (And.intro (Aside0.mk (Kd.R_below ow5.out hA)) (And.intro (Nat.le_trans sz5 hA.size) ((Aside0.mk (And.intro g5_0.out.1 (Kd.C_below g5_0.out.2 hA))))))))
  clear sz4 bE ow5 sz5 g5_0 hm0
  obtain ⟨⟨⟨⟨hB, z0, s0_0, s0_1, s0_2, Q0_0, Q0_1⟩, g2_0, g2_1⟩, g3_0⟩, sz4, bE, ow5, sz5, g5_0⟩ := HK11.out _ (Below.refl _ _)
  have le4_11 := sz4
  have le5_11 := sz5
  go_wp2_with fail
  refine (heldIntS_k _ _ _ _ _ g5_0.out.2 g5_0.out.1 SM_u3_0.out (by have := SM_u3_0.out; omega) (by have := SM_u3_0.out; omega)).mono ?_
  rintro e w12 ⟨rfl, hb⟩
  have B12 := Aside0.mk hb
  clear hB z0 s0_0 s0_1 s0_2 Q0_0 Q0_1 g2_0 g2_1 g3_0 sz4 bE ow5 sz5 g5_0 hb
  have HK12 := Aside0.mk fun (W : World) (hA : Below w12.heap.size w12 W) => HK11.out W (B12.out.trans (hA.mono B12.out.size))
  obtain ⟨⟨⟨⟨hB, z0, s0_0, s0_1, s0_2, Q0_0, Q0_1⟩, g2_0, g2_1⟩, g3_0⟩, sz4, bE, ow5, sz5, g5_0⟩ := HK12.out _ (Below.refl _ _)
  have le4_12 := sz4
  have le5_12 := sz5
  go_wp2_with fail
  refine (laws_toShow.c k A0_0 c0_0 l0_0 A0_1 c0_1 l0_1 a0_2 _ _ _ _ Q0_0.out.2 Q0_0.out.1 Q0_1.out.2 Q0_1.out.1 HF1.out).mono ?_
  rintro e w13 ⟨X13_0, x13_0, X13_1, x13_1, rfl, g13_0, g13_1, hb⟩
  have B13 := Aside0.mk hb
  clear hB z0 s0_0 s0_1 s0_2 Q0_0 Q0_1 g2_0 g2_1 g3_0 sz4 bE ow5 sz5 g5_0 hb
  have HK13 := Aside0.mk fun (W : World) (hA : Below w13.heap.size w13 W) => And.intro (HK12.out W (B13.out.trans (hA.mono B13.out.size))) (And.intro (Aside0.mk (And.intro g13_0.out.1 (Kd.C_below g13_0.out.2 hA))) ((Aside0.mk (And.intro g13_1.out.1 (Kd.C_below g13_1.out.2 hA)))))
  clear g13_0 g13_1
  obtain ⟨⟨⟨⟨⟨hB, z0, s0_0, s0_1, s0_2, Q0_0, Q0_1⟩, g2_0, g2_1⟩, g3_0⟩, sz4, bE, ow5, sz5, g5_0⟩, g13_0, g13_1⟩ := HK13.out _ (Below.refl _ _)
  have le4_13 := sz4
  have le5_13 := sz5
  go_wp2_with fail
  refine (impl_ChosenNodes.c k X13_0 x13_0 u1_0_0 X13_1 x13_1 u1_0_1 u1_0_2 _ _ g13_0.out.2 g13_0.out.1 g13_1.out.2 g13_1.out.1 HF3.out).mono ?_
  rintro e w14 ⟨X14_0, x14_0, rfl, g14_0, hb⟩
  have B14 := Aside0.mk hb
  clear hB z0 s0_0 s0_1 s0_2 Q0_0 Q0_1 g2_0 g2_1 g3_0 sz4 bE ow5 sz5 g5_0 g13_0 g13_1 hb
  have HK14 := Aside0.mk fun (W : World) (hA : Below w14.heap.size w14 W) => And.intro (HK13.out W (B14.out.trans (hA.mono B14.out.size))) ((Aside0.mk (And.intro g14_0.out.1 (Kd.C_below g14_0.out.2 hA))))
  clear g14_0
  obtain ⟨⟨⟨⟨⟨⟨hB, z0, s0_0, s0_1, s0_2, Q0_0, Q0_1⟩, g2_0, g2_1⟩, g3_0⟩, sz4, bE, ow5, sz5, g5_0⟩, g13_0, g13_1⟩, g14_0⟩ := HK14.out _ (Below.refl _ _)
  have le4_14 := sz4
  have le5_14 := sz5
  go_wp2_with fail
  refine (laws_eqIntS.calls (2 ^ 64) X14_0 x14_0 u3_0 X3_0 x3_0 u3_0 true _ g14_0.out.2 g14_0.out.1 g3_0.out.2 g3_0.out.1 (eqIntS_refl _ (g14_0.out.2.2).1 (2 ^ 64) (Nat.le_refl _))).mono ?_
  rintro e w15 ⟨rfl, hd⟩
  have hb := hd.below
  clear hd
  have B15 := Aside0.mk hb
  clear hB z0 s0_0 s0_1 s0_2 Q0_0 Q0_1 g2_0 g2_1 g3_0 sz4 bE ow5 sz5 g5_0 g13_0 g13_1 g14_0 hb
  have HK15 := Aside0.mk fun (W : World) (hA : Below w15.heap.size w15 W) => HK14.out W (B15.out.trans (hA.mono B15.out.size))
  obtain ⟨⟨⟨⟨⟨⟨hB, z0, s0_0, s0_1, s0_2, Q0_0, Q0_1⟩, g2_0, g2_1⟩, g3_0⟩, sz4, bE, ow5, sz5, g5_0⟩, g13_0, g13_1⟩, g14_0⟩ := HK15.out _ (Below.refl _ _)
  have le4_15 := sz4
  have le5_15 := sz5
  go_wp2_with fail
  refine (heldIntS_k _ _ _ _ _ g5_0.out.2 g5_0.out.1 SM_u3_0.out (by have := SM_u3_0.out; omega) (by have := SM_u3_0.out; omega)).mono ?_
  rintro e w16 ⟨rfl, hb⟩
  have B16 := Aside0.mk hb
  clear hB z0 s0_0 s0_1 s0_2 Q0_0 Q0_1 g2_0 g2_1 g3_0 sz4 bE ow5 sz5 g5_0 g13_0 g13_1 g14_0 hb
  have HK16 := Aside0.mk fun (W : World) (hA : Below w16.heap.size w16 W) => HK15.out W (B16.out.trans (hA.mono B16.out.size))
  obtain ⟨⟨⟨⟨⟨⟨hB, z0, s0_0, s0_1, s0_2, Q0_0, Q0_1⟩, g2_0, g2_1⟩, g3_0⟩, sz4, bE, ow5, sz5, g5_0⟩, g13_0, g13_1⟩, g14_0⟩ := HK16.out _ (Below.refl _ _)
  have le4_16 := sz4
  have le5_16 := sz5
  go_wp2
  go_ret
  exact ⟨rfl, (HK16.out _ (Below.refl _ _)).1.1.1.1.1.1⟩

end Go.Proofs.Ytodfnelilhjoeaa.Pr

namespace Go.Proofs.Ytodfnelilhjoeaa.Pr
open Go.RowKit Go.Proofs.YtodfnelilhjoeaaW.PrintWords Go.Proofs.YtodfnelilhjoeaaW.PrintLast Go.Proofs.YtodfnelilhjoeaaW.PrintMore
attribute [local go_sem] max2_int min2_int max_two min_two max_three min_three max_four min_four
set_option linter.unusedVariables false
set_option linter.unusedSimpArgs false

def laws_FnExactChosenNodes.Pure : Prop := ∀ (y0 : S25), okS25 y0 → ∃ k, laws_FnExactChosenNodes.f k y0.f0 y0.f1 y0.f2 = some true
end Go.Proofs.Ytodfnelilhjoeaa.Pr

set_option linter.unusedSimpArgs false
namespace Go.Proofs.Ytodfnelilhjoeaa.Pure
open Go.RowKit Go.Proofs.Ytodfnelilhjoeaa.Pr Go.Proofs.Ytodfnelilhjoeaa.Ni Go.Proofs.YtodfnelilhjoeaaW.PrintWords Go.Proofs.YtodfnelilhjoeaaW.PrintMore
theorem FnExactChosenNodes : laws_FnExactChosenNodes.Pure := by
  rintro ⟨ns, ts, z⟩ ⟨⟨hn, hb⟩, ⟨ht, _⟩, _⟩
  simp only [maxLen] at hn ht
  refine ⟨2 ^ 70, ?_⟩
  unfold laws_FnExactChosenNodes.f
  obtain ⟨r, hr, h⟩ := szShow_f ns ts z hn (fun n hn => by have := hb n hn; exact ⟨by simpa [maxLen] using this.1, by simpa [maxLen] using this.2.1.1⟩) ht (2 ^ 70) (by omega) 1048576 (by omega) (by omega)
  rw [hr, Option.bind_some]
  rcases h with h | ⟨_, _, h⟩
  · rw [if_pos h]
  rw [if_neg (by omega)]
  have hc := h.cv
  have hlen := Nat.le_trans (choB_len (ns.map cvN) (ts.map cvT) z) hc.1
  have hsm := smallB_of hc
  simp only [toShow_f ns ts z h (2 ^ 70) (by omega), spec_ChosenNodes_f (ts := ts.map cvT) (z := z) hc (2 ^ 70) (by omega), impl_ChosenNodes_f (ts := ts.map cvT) (z := z) hc (2 ^ 70) (by omega), hsm, hlen, Option.bind_some, if_true]
end Go.Proofs.Ytodfnelilhjoeaa.Pure

