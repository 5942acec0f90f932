/- The texts of one claim, put together by a program of this session. -/
import Derived.Deep.LoopGhost
import Derived.Shelf.Abstract
import Derived.WalkKit
import Derived.ProofKit
import Derived.Below
import Derived.Test.YtodfnelilhjoeaaBAcc1x1
import Derived.Test.YtodfnelilhjoeaaBAcc1x2
import Derived.Test.YtodfnelilhjoeaaBAcc1x3
namespace Go.Proofs.Ytodfnelilhjoeaa.Pr
open Go.RowKit Go.Proofs.YtodfnelilhjoeaaW.PrintWords Go.Proofs.YtodfnelilhjoeaaW.PrintLast Go.Proofs.YtodfnelilhjoeaaW.PrintMore
attribute [local go_sem] max2_int min2_int max_two min_two max_three min_three max_four min_four
set_option linter.unusedVariables false
set_option linter.unusedSimpArgs false

/-! ### spec_ImpliesLabel: function 155 -/
mutual
def spec_ImpliesLabel.j0 : Nat → List Int → List Int → Bool → Option (Bool)
 | 0, _, _, _ => none
 | k + 1, x0, x1, x14 => if x14 = true then (some false) else (spec_ImpliesLabel.l0 k x0 x1 (x1.length : Int) 0)
def spec_ImpliesLabel.l0 : Nat → List Int → List Int → Int → Int → Option (Bool)
 | 0, _, _, _, _ => none
 | k + 1, x0, x15, x16, x17 => if x17 < x16 then (if 0 ≤ x17 then (if x17 < (x15.length : Int) then ((spec_l07Has.f k x0 (rd x15 x17)).bind fun t155004 => (if t155004 = true then (spec_ImpliesLabel.l0 k x0 x15 x16 (wrap64 (x17 + 1))) else (some false))) else (none)) else (none)) else (some true)
end
def spec_ImpliesLabel.f (k : Nat) (l0 : List Int) (l1 : List Int) : Option (Bool) := (spec_LabelOk.f k l0).bind fun t155001 => (if t155001 = true then ((spec_LabelOk.f k l1).bind fun t155002 => (spec_ImpliesLabel.j0 k l0 l1 (!t155002))) else (spec_ImpliesLabel.j0 k l0 l1 true))
set_option maxHeartbeats 8000000 in
set_option maxRecDepth 100000 in
theorem spec_ImpliesLabel.calls (k : Nat) (A0 : Option Addr) (c0 : Nat) (l0 : List Int) (A1 : Option Addr) (c1 : Nat) (l1 : List Int) (r : Bool) (w : World) (hr0 : Kd.C (Kd.int .i64) w A0 l0.length l0) (hc0 : l0.length ≤ c0) (hr1 : Kd.C (Kd.int .i64) w A1 l1.length l1) (hc1 : l1.length ≤ c1) (h : spec_ImpliesLabel.f k l0 l1 = some r) :
  Calls Try.prog 155 #[.slice A0 l0.length c0, .slice A1 l1.length c1] w fun e w' => e = .returned (.bool r) ∧ Drawn0 w w' := by
 have HR0 := Aside0.mk hr0; have HC0 := Aside0.mk hc0; clear hr0 hc0; have HR1 := Aside0.mk hr1; have HC1 := Aside0.mk hc1; clear hr1 hc1
 have H : ((spec_LabelOk.f k l0).bind fun t155001 => (if t155001 = true then ((spec_LabelOk.f k l1).bind fun t155002 => (spec_ImpliesLabel.j0 k l0 l1 (!t155002))) else (spec_ImpliesLabel.j0 k l0 l1 true))) = some r := h
 clear h; have HC3 := Aside0.mk H; clear H
 go_enter Try.func155, Try.ntmps155
 go_upto_region 1 with (fail)
 go_cut [14] (fun v14 wc => ∃ (kq : Nat) (x14_2 : Bool), v14 = .bool x14_2 ∧ Aside0 (spec_ImpliesLabel.j0 kq l0 l1 x14_2 = some r) ∧ Aside0 (kq ≤ k) ∧ Drawn0 w wc)
 case first =>
  have H := HC3.out
  clear HC3
  replace H := Option.bind_eq_some_iff.mp H
  obtain ⟨t155001, A40, H⟩ := H
  replace H : (if t155001 = true then ((spec_LabelOk.f k l1).bind fun t155002 => (spec_ImpliesLabel.j0 k l0 l1 (!t155002))) else (spec_ImpliesLabel.j0 k l0 l1 true)) = some r := H
  have A4 := Aside0.mk A40; clear A40
  by_cases c5 : t155001 = true
  ·subst c5
   have H1 : ((spec_LabelOk.f k l1).bind fun t155002 => (spec_ImpliesLabel.j0 k l0 l1 (!t155002))) = some r := by rw [if_pos rfl] at H; exact H
   clear H
   have H := H1
   clear H1
   replace H := Option.bind_eq_some_iff.mp H
   obtain ⟨t155002, A60, H⟩ := H
   replace H : (spec_ImpliesLabel.j0 k l0 l1 (!t155002)) = some r := H
   have A6 := Aside0.mk A60; clear A60
   have H' := Aside0.mk H
   clear H
   go_wp2_with (first | ((with_reducible refine gate_callee (f := 174) rfl ?_); refine goesL_ (some 8) rfl rfl Try.func174 (by kernel_rfl) rfl #[.slice A0 l0.length c0] rfl (by (try simp only [List.map_toArray, List.map_cons, List.map_nil]); first | done | rfl | (simp only [List.length_drop, List.length_take]; rfl)) ?_; (with_reducible refine (spec_LabelOk.calls k _ _ l0 true _ ?side1 ?side2 A4.out).mono ?_); (case side1 => repeat (first | exact HR0.out | (with_reducible refine Kd.C_alloc ?_ _) | (with_reducible refine Kd.C_drewN ?_ _) | (with_reducible refine Kd.C_drew ?_))); (case side2 => exact HC0.out); rintro e w' ⟨rfl, ⟨nd, rfl⟩⟩; refine ⟨_, rfl, ?_⟩) | (go_at_call 174; (with_reducible refine (spec_LabelOk.calls k _ _ l1 t155002 _ ?side1 ?side2 A6.out).mono ?_); (case side1 => repeat (first | exact HR1.out | (with_reducible refine Kd.C_alloc ?_ _) | (with_reducible refine Kd.C_drewN ?_ _) | (with_reducible refine Kd.C_drew ?_))); (case side2 => exact HC1.out); rintro e w' ⟨rfl, ⟨nd, rfl⟩⟩))
   go_meet
   case rel => exact ⟨_, (!t155002), (by first | rfl | (simp; done) | (simp [*]; done)), H', ⟨by first | omega | exact Nat.le_refl _⟩, by repeat (first | exact Drawn0.refl _ | apply Drawn0.step)⟩
  ·replace c5 := Bool.eq_false_iff.mpr c5
   subst c5
   have H1 : (spec_ImpliesLabel.j0 k l0 l1 true) = some r := by rw [if_neg (show ¬ (false = true) by decide)] at H; exact H
   clear H
   have H := H1
   clear H1
   have H' := Aside0.mk H
   clear H
   go_wp2_with (first | ((with_reducible refine gate_callee (f := 174) rfl ?_); refine goesL_ (some 8) rfl rfl Try.func174 (by kernel_rfl) rfl #[.slice A0 l0.length c0] rfl (by (try simp only [List.map_toArray, List.map_cons, List.map_nil]); first | done | rfl | (simp only [List.length_drop, List.length_take]; rfl)) ?_; (with_reducible refine (spec_LabelOk.calls k _ _ l0 false _ ?side1 ?side2 A4.out).mono ?_); (case side1 => repeat (first | exact HR0.out | (with_reducible refine Kd.C_alloc ?_ _) | (with_reducible refine Kd.C_drewN ?_ _) | (with_reducible refine Kd.C_drew ?_))); (case side2 => exact HC0.out); rintro e w' ⟨rfl, ⟨nd, rfl⟩⟩; refine ⟨_, rfl, ?_⟩))
   go_meet
   case rel => exact ⟨_, (true), (by first | rfl | (simp; done) | (simp [*]; done)), H', ⟨by first | omega | exact Nat.le_refl _⟩, by repeat (first | exact Drawn0.refl _ | apply Drawn0.step)⟩
 case rest =>
  clear HC3
  try clear c1
  try clear p2
  try clear c5
  obtain ⟨kq, x14_2, rfl, HA, HJ2, ⟨mc2, rfl⟩⟩ := hcut
  cases kq with
  | zero => exact absurd HA.out (by simp [spec_ImpliesLabel.j0])
  | succ kj2 =>
   have H := HA.out
   clear HA
   simp only [spec_ImpliesLabel.j0] at H
   by_cases c7 : x14_2 = true
   ·subst c7
    have H1 : (some false) = some r := by rw [if_pos rfl] at H; exact H
    clear H
    have H := H1
    clear H1
    obtain rfl := Option.some.inj H
    go_wp2
    go_ret
    exact ⟨by first | rfl | (simp; done) | (simp [*]; done), by repeat (first | exact Drawn0.refl _ | apply Drawn0.step)⟩
   ·replace c7 := Bool.eq_false_iff.mpr c7
    subst c7
    have H1 : (spec_ImpliesLabel.l0 kj2 l0 l1 (l1.length : Int) 0) = some r := by rw [if_neg (show ¬ (false = true) by decide)] at H; exact H
    clear H
    have H := H1
    clear H1
    have H' := Aside0.mk H
    clear H
    go_wp2
    go_loopg [17] kj2 (fun kq v17 w' => ∃ (x17_2 : Int), v17 = .int .i64 x17_2 ∧ Aside0 (spec_ImpliesLabel.l0 kq l0 l1 (l1.length : Int) x17_2 = some r) ∧ Aside0 (kq ≤ kj2) ∧ Drawn0 w w')
    case atStart => exact ⟨(0), (by first | rfl | (simp; done) | (simp [*]; done)), H', ⟨Nat.le_refl _⟩, by repeat (first | exact Drawn0.refl _ | apply Drawn0.step)⟩
    case round =>
     clear H'
     try clear c1
     try clear c2
     try clear p2
     try clear c5
     try clear c7
     try clear p2
     obtain ⟨x17_2, rfl, HA, HK2, ⟨m2, rfl⟩⟩ := hrel
     cases gk with
     | zero => exact absurd HA.out (by simp [spec_ImpliesLabel.l0])
     | succ k2 =>
      have H := HA.out
      clear HA
      simp only [spec_ImpliesLabel.l0] at H
      by_cases c8 : x17_2 < (l1.length : Int)
      ·rw [if_pos c8] at H
       have c8b0 : decide (x17_2 < (l1.length : Int)) = true := decide_eq_true c8
       clear c8
       by_cases c9 : 0 ≤ x17_2
       ·rw [if_pos c9] at H
        have c9b0 : decide (0 ≤ x17_2) = true := decide_eq_true c9
        clear c9
        by_cases c10 : x17_2 < (l1.length : Int)
        ·rw [if_pos c10] at H
         have c10b0 : decide (x17_2 < (l1.length : Int)) = true := decide_eq_true c10
         clear c10
         replace H := Option.bind_eq_some_iff.mp H
         obtain ⟨t155004, A110, H⟩ := H
         replace H : (if t155004 = true then (spec_ImpliesLabel.l0 k2 l0 l1 (l1.length : Int) (wrap64 (x17_2 + 1))) else (some false)) = some r := H
         have A11 := Aside0.mk A110; clear A110
         by_cases c12 : t155004 = true
         ·subst c12
          have H1 : (spec_ImpliesLabel.l0 k2 l0 l1 (l1.length : Int) (wrap64 (x17_2 + 1))) = some r := by rw [if_pos rfl] at H; exact H
          clear H
          have H := H1
          clear H1
          have H' := Aside0.mk H
          clear H
          have p155003 : 0 ≤ (x17_2 : Int) := of_decide_eq_true (by first | (with_reducible assumption) | assumption)
          have q155003 : x17_2 < (l1.length : Int) := of_decide_eq_true (by first | (with_reducible assumption) | assumption)
          obtain ⟨ad155003, e155003, hx155003_0⟩ := Kd.at_int HR1.out x17_2 p155003 q155003
          cases e155003
          replace p155003 := eq_true p155003
          replace q155003 := eq_true q155003
          go_wp2_with (first | ((with_reducible refine gate_callee (f := 150) rfl ?_); refine goesL_ (some 23) rfl rfl Try.func150 (by kernel_rfl) rfl #[.slice A0 l0.length c0, .int .i64 (rd l1 x17_2)] rfl (by (try simp only [List.map_toArray, List.map_cons, List.map_nil]); first | done | rfl | (simp only [List.length_drop, List.length_take]; rfl)) ?_; (with_reducible refine (spec_l07Has.calls k2 _ _ l0 (rd l1 x17_2) true _ ?side1 ?side2 A11.out).mono ?_); (case side1 => repeat (first | exact HR0.out | (with_reducible refine Kd.C_alloc ?_ _) | (with_reducible refine Kd.C_drewN ?_ _) | (with_reducible refine Kd.C_drew ?_))); (case side2 => exact HC0.out); rintro e w' ⟨rfl, ⟨nd, rfl⟩⟩; refine ⟨_, rfl, ?_⟩))
          go_roundg k2
          case measure => have := HJ2.out; have := HK2.out; omega
          case rel => exact ⟨(wrap64 (x17_2 + 1)), (by first | rfl | (simp; done) | (simp [*]; done)), H', ⟨by have := HJ2.out; have := HK2.out; omega⟩, by repeat (first | exact Drawn0.refl _ | apply Drawn0.step)⟩
         ·replace c12 := Bool.eq_false_iff.mpr c12
          subst c12
          have H1 : (some false) = some r := by rw [if_neg (show ¬ (false = true) by decide)] at H; exact H
          clear H
          have H := H1
          clear H1
          obtain rfl := Option.some.inj H
          have p155003 : 0 ≤ (x17_2 : Int) := of_decide_eq_true (by first | (with_reducible assumption) | assumption)
          have q155003 : x17_2 < (l1.length : Int) := of_decide_eq_true (by first | (with_reducible assumption) | assumption)
          obtain ⟨ad155003, e155003, hx155003_0⟩ := Kd.at_int HR1.out x17_2 p155003 q155003
          cases e155003
          replace p155003 := eq_true p155003
          replace q155003 := eq_true q155003
          go_wp2_with (first | ((with_reducible refine gate_callee (f := 150) rfl ?_); refine goesL_ (some 23) rfl rfl Try.func150 (by kernel_rfl) rfl #[.slice A0 l0.length c0, .int .i64 (rd l1 x17_2)] rfl (by (try simp only [List.map_toArray, List.map_cons, List.map_nil]); first | done | rfl | (simp only [List.length_drop, List.length_take]; rfl)) ?_; (with_reducible refine (spec_l07Has.calls k2 _ _ l0 (rd l1 x17_2) false _ ?side1 ?side2 A11.out).mono ?_); (case side1 => repeat (first | exact HR0.out | (with_reducible refine Kd.C_alloc ?_ _) | (with_reducible refine Kd.C_drewN ?_ _) | (with_reducible refine Kd.C_drew ?_))); (case side2 => exact HC0.out); rintro e w' ⟨rfl, ⟨nd, rfl⟩⟩; refine ⟨_, rfl, ?_⟩))
          go_ret
          exact ⟨by first | rfl | (simp; done) | (simp [*]; done), by repeat (first | exact Drawn0.refl _ | apply Drawn0.step)⟩
        ·rw [if_neg c10] at H
         exact absurd H (by simp)
       ·rw [if_neg c9] at H
        exact absurd H (by simp)
      ·rw [if_neg c8] at H
       have c8b0 : decide (x17_2 < (l1.length : Int)) = false := decide_eq_false c8
       clear c8
       obtain rfl := Option.some.inj H
       go_wp2
       go_ret
       exact ⟨by first | rfl | (simp; done) | (simp [*]; done), by repeat (first | exact Drawn0.refl _ | apply Drawn0.step)⟩

end Go.Proofs.Ytodfnelilhjoeaa.Pr

namespace Go.Proofs.Ytodfnelilhjoeaa.Pr
open Go.RowKit Go.Proofs.YtodfnelilhjoeaaW.PrintWords Go.Proofs.YtodfnelilhjoeaaW.PrintLast Go.Proofs.YtodfnelilhjoeaaW.PrintMore
attribute [local go_sem] max2_int min2_int max_two min_two max_three min_three max_four min_four
set_option linter.unusedVariables false
set_option linter.unusedSimpArgs false

/-! ### slices_IndexFunc_int_int: function 161 (by hand) -/
-- IMPORT Derived.Deep.LoopGhost
-- IMPORT Derived.Shelf.Abstract
-- IMPORT Derived.Test.YtodfnelilhjoeaaQNice
open Go.Proofs.Ytodfnelilhjoeaa.Ni
set_option maxHeartbeats 4000000 in
theorem slices_IndexFunc_int_int.any (p : Int → Bool) (g : Nat) (lb : Array Value) (eg : ∀ args w, (callFunc g args).run Try.prog w = .ok (.enter g args) w) (A0 : Option Addr) (c0 : Nat) (l0 : List Int) (w : World) (hr0 : Kd.C (Kd.int .i64) w A0 l0.length l0)
  (hp : ∀ (W : World) (x : Int), x ∈ l0 → Below w.heap.size w W → Calls Try.prog g (#[.int .i64 x] ++ lb) W fun e w' => e = .returned (.bool (p x)) ∧ Below W.heap.size W w') :
  Calls Try.prog 161 #[.slice A0 l0.length c0, .func (.func g) #[] lb] w fun e w' => e = .returned (.int .i64 (idxOf p l0)) ∧ Below w.heap.size w w' := by
 have HR0 := Aside0.mk hr0; have HP := Aside0.mk hp; clear hr0 hp
 have HL : l0.length ≤ 9223372036854775807 := HR0.out.2.1
 go_enter Try.func161, Try.ntmps161
 go_wp2
 go_loopg [5, 8] l0.length (fun gg _ s8 wr => ∃ kk : Nat, Aside0 (kk ≤ l0.length) ∧ Aside0 (l0.length - kk ≤ gg) ∧ s8 = .int .i64 kk ∧ Aside0 (Below w.heap.size w wr) ∧ Aside0 (∀ j y, j < kk → l0[j]? = some y → p y = false))
 case atStart => exact ⟨0, ⟨Nat.zero_le _⟩, ⟨by omega⟩, rfl, ⟨Below.refl _ _⟩, ⟨fun j y hj => absurd hj (Nat.not_lt_zero _)⟩⟩
 case round =>
  obtain ⟨kk, HK, HG, rfl, HB, HN⟩ := hrel
  by_cases hlt : kk < l0.length
  ·have hltz : (kk : Int) < (l0.length : Int) := by omega
   obtain ⟨ad, e1, hx0⟩ := Kd.at_int HR0.out (kk : Int) (by omega) hltz
   cases e1
   replace hx0 := (HB.out.cell (World.block_lt_of_cell? w _ hx0)).trans hx0
   rw [Int.toNat_natCast] at hx0
   have hxe : l0[kk]? = some (rd l0 (kk : Int)) := by
    unfold rd
    rw [Int.toNat_natCast, List.getD_eq_getElem?_getD, List.getElem?_eq_getElem hlt]; rfl

   generalize rd l0 (kk : Int) = y at hx0 hxe
   have HX := Aside0.mk hxe; clear hxe
   have hcall := HP.out wr y (List.mem_of_getElem? HX.out) HB.out

   cases hq : p y with
   | true =>
    have HQ := Aside0.mk hq
    rw [hq] at hcall
    clear hq
    go_wp2_with (go_at_fn g; refine hcall.mono ?_; rintro e w' ⟨rfl, hb⟩)
    go_ret
    exact ⟨by rw [idxOf_hit p l0 kk y HX.out HQ.out HN.out]; rfl, HB.out.trans (hb.mono HB.out.size)⟩
   | false =>
    have HQ := Aside0.mk hq
    rw [hq] at hcall
    clear hq
    go_wp2_with (go_at_fn g; refine hcall.mono ?_; rintro e w' ⟨rfl, hb⟩)
    go_roundg (l0.length - (kk + 1))
    case measure => have := HG.out; omega
    case rel =>
     refine ⟨kk + 1, ⟨by omega⟩, ⟨by omega⟩, by go_num, ⟨HB.out.trans (hb.mono HB.out.size)⟩, ⟨fun j y' hj hy => ?_⟩⟩
     by_cases e : j = kk
     ·subst e
      rw [HX.out] at hy
      cases hy
      exact HQ.out
     ·exact HN.out j y' (by omega) hy
  ·have hltz : ¬ (kk : Int) < (l0.length : Int) := by omega
   have : kk = l0.length := by have := HK.out; omega
   subst this
   go_wp2
   go_ret
   exact ⟨by rw [idxOf_miss p l0 HN.out]; rfl, HB.out⟩

end Go.Proofs.Ytodfnelilhjoeaa.Pr

namespace Go.Proofs.Ytodfnelilhjoeaa.Pr
open Go.RowKit Go.Proofs.YtodfnelilhjoeaaW.PrintWords Go.Proofs.YtodfnelilhjoeaaW.PrintLast Go.Proofs.YtodfnelilhjoeaaW.PrintMore
attribute [local go_sem] max2_int min2_int max_two min_two max_three min_three max_four min_four
set_option linter.unusedVariables false
set_option linter.unusedSimpArgs false

/-! ### slices_ContainsFunc_int_int: function 123 (by hand) -/
-- IMPORT Derived.Test.YtodfnelilhjoeaaQNice
open Go.Proofs.Ytodfnelilhjoeaa.Ni
set_option maxHeartbeats 4000000 in
theorem slices_ContainsFunc_int_int.any (p : Int → Bool) (g : Nat) (lb : Array Value) (eg : ∀ args w, (callFunc g args).run Try.prog w = .ok (.enter g args) w) (A0 : Option Addr) (c0 : Nat) (l0 : List Int) (w : World) (hr0 : Kd.C (Kd.int .i64) w A0 l0.length l0)
  (hp : ∀ (W : World) (x : Int), x ∈ l0 → Below w.heap.size w W → Calls Try.prog g (#[.int .i64 x] ++ lb) W fun e w' => e = .returned (.bool (p x)) ∧ Below W.heap.size W w') :
  Calls Try.prog 123 #[.slice A0 l0.length c0, .func (.func g) #[] lb] w fun e w' => e = .returned (.bool (l0.any p)) ∧ Below w.heap.size w w' := by
 have HI := Aside0.mk (slices_IndexFunc_int_int.any p g lb eg A0 c0 l0 w hr0 hp)
 clear hr0 hp
 have HE := Aside0.mk (idxOf_any p l0)
 go_enter Try.func123, Try.ntmps123
 go_wp2_with (go_at_call 161; refine HI.out.mono ?_; rintro e w' ⟨rfl, hb⟩)
 go_ret
 exact ⟨by rw [← HE.out]; rfl, hb⟩

end Go.Proofs.Ytodfnelilhjoeaa.Pr

namespace Go.Proofs.Ytodfnelilhjoeaa.Pr
open Go.RowKit Go.Proofs.YtodfnelilhjoeaaW.PrintWords Go.Proofs.YtodfnelilhjoeaaW.PrintLast Go.Proofs.YtodfnelilhjoeaaW.PrintMore
attribute [local go_sem] max2_int min2_int max_two min_two max_three min_three max_four min_four
set_option linter.unusedVariables false
set_option linter.unusedSimpArgs false

/-! ### slices_Index_int_int: function 89 (by hand) -/
open Go.Proofs.Ytodfnelilhjoeaa.Ni
-- IMPORT Derived.Test.YtodfnelilhjoeaaQNice
-- IMPORT Derived.Deep.LoopGhost
def slices_Index_int_int.f (l0 : List Int) (a1 : Int) : Option Int := some (idxOf (fun y => decide (a1 = y)) l0)
set_option maxHeartbeats 4000000 in
theorem slices_Index_int_int.calls (A0 : Option Addr) (c0 : Nat) (l0 : List Int) (a1 : Int) (r : Int) (w : World) (hr0 : Kd.C (Kd.int .i64) w A0 l0.length l0) (hc0 : l0.length ≤ c0) (h : slices_Index_int_int.f l0 a1 = some r) :
  Calls Try.prog 89 #[.slice A0 l0.length c0, .int .i64 a1] w fun e w' => e = .returned (.int .i64 r) ∧ Below w.heap.size w w' := by
 obtain rfl := Option.some.inj h
 have HR0 := Aside0.mk hr0
 have HL : l0.length ≤ 9223372036854775807 := HR0.out.2.1
 clear hr0 h hc0
 go_enter Try.func89, Try.ntmps89
 go_wp2
 go_loopg [5, 8] l0.length (fun gg _ s8 wr => ∃ kk : Nat, Aside0 (kk ≤ l0.length) ∧ Aside0 (l0.length - kk ≤ gg) ∧ s8 = .int .i64 kk ∧ Aside0 (Below w.heap.size w wr) ∧ Aside0 (∀ j y, j < kk → l0[j]? = some y → decide (a1 = y) = false))
 case atStart => exact ⟨0, ⟨Nat.zero_le _⟩, ⟨by omega⟩, rfl, ⟨Below.refl _ _⟩, ⟨fun j y hj => absurd hj (Nat.not_lt_zero _)⟩⟩
 case round =>
  obtain ⟨kk, HK, HG, rfl, HB, HN⟩ := hrel
  by_cases hlt : kk < l0.length
  ·have hltz : (kk : Int) < (l0.length : Int) := by omega
   obtain ⟨ad, e1, hx⟩ := Kd.at_int HR0.out (kk : Int) (by omega) hltz
   cases e1
   replace hx := (HB.out.cell (World.block_lt_of_cell? w _ hx)).trans hx
   rw [Int.toNat_natCast] at hx
   have hxe : l0[kk]? = some (rd l0 (kk : Int)) := by
    unfold rd
    rw [Int.toNat_natCast, List.getD_eq_getElem?_getD, List.getElem?_eq_getElem hlt]; rfl
   generalize rd l0 (kk : Int) = y at hx hxe
   have HX := Aside0.mk hxe; clear hxe
   by_cases hq : a1 = y
   ·have hqb : (a1 == y) = true := beq_iff_eq.2 hq
    have HQ := Aside0.mk (decide_eq_true hq)
    clear hq
    go_wp2
    go_ret
    exact ⟨by rw [idxOf_hit _ l0 kk y HX.out HQ.out HN.out]; rfl, HB.out⟩
   ·have hqb : (a1 == y) = false := beq_eq_false_iff_ne.2 hq
    have HQ := Aside0.mk (decide_eq_false hq)
    clear hq
    go_wp2
    go_roundg (l0.length - (kk + 1))
    case measure => have := HG.out; omega
    case rel =>
     refine ⟨kk + 1, ⟨by omega⟩, ⟨by omega⟩, by go_num, HB, ⟨fun j y' hj hy => ?_⟩⟩
     by_cases e : j = kk
     ·subst e
      rw [HX.out] at hy
      cases hy
      exact HQ.out
     ·exact HN.out j y' (by omega) hy
  ·have hltz : ¬ (kk : Int) < (l0.length : Int) := by omega
   have : kk = l0.length := by have := HK.out; omega
   subst this
   go_wp2
   go_ret
   exact ⟨by rw [idxOf_miss _ l0 HN.out]; rfl, HB.out⟩

end Go.Proofs.Ytodfnelilhjoeaa.Pr

namespace Go.Proofs.Ytodfnelilhjoeaa.Pr
open Go.RowKit Go.Proofs.YtodfnelilhjoeaaW.PrintWords Go.Proofs.YtodfnelilhjoeaaW.PrintLast Go.Proofs.YtodfnelilhjoeaaW.PrintMore
attribute [local go_sem] max2_int min2_int max_two min_two max_three min_three max_four min_four
set_option linter.unusedVariables false
set_option linter.unusedSimpArgs false

/-! ### slices_Contains_int_int: function 134 (by hand) -/
open Go.Proofs.Ytodfnelilhjoeaa.Ni
-- IMPORT Derived.Test.YtodfnelilhjoeaaQNice
def slices_Contains_int_int.f (l0 : List Int) (a1 : Int) : Option Bool := some (l0.any fun y => decide (a1 = y))
theorem slices_Contains_int_int.calls (A0 : Option Addr) (c0 : Nat) (l0 : List Int) (a1 : Int) (r : Bool) (w : World) (hr0 : Kd.C (Kd.int .i64) w A0 l0.length l0) (hc0 : l0.length ≤ c0) (h : slices_Contains_int_int.f l0 a1 = some r) :
  Calls Try.prog 134 #[.slice A0 l0.length c0, .int .i64 a1] w fun e w' => e = .returned (.bool r) ∧ Below w.heap.size w w' := by
 obtain rfl := Option.some.inj h
 have HI := Aside0.mk (slices_Index_int_int.calls A0 c0 l0 a1 (idxOf (fun y => decide (a1 = y)) l0) w hr0 hc0 rfl)
 have HE := Aside0.mk (idxOf_any (fun y => decide (a1 = y)) l0)
 clear hr0 hc0 h
 go_enter Try.func134, Try.ntmps134
 go_wp2_with (go_at_call 89; refine HI.out.mono ?_; rintro e w' ⟨rfl, hb⟩)
 go_ret
 exact ⟨by rw [← HE.out]; rfl, hb⟩
theorem slices_Contains_int_int.hand (A0 : Option Addr) (c0 : Nat) (l0 : List Int) (a1 : Int) (w : World) (hr0 : Kd.C (Kd.int .i64) w A0 l0.length l0) (hc0 : l0.length ≤ c0) :
  Calls Try.prog 134 #[.slice A0 l0.length c0, .int .i64 a1] w fun e w' => e = .returned (.bool (l0.any fun y => decide (a1 = y))) ∧ Below w.heap.size w w' := slices_Contains_int_int.calls A0 c0 l0 a1 _ w hr0 hc0 rfl

end Go.Proofs.Ytodfnelilhjoeaa.Pr

namespace Go.Proofs.Ytodfnelilhjoeaa.Pr
open Go.RowKit Go.Proofs.YtodfnelilhjoeaaW.PrintWords Go.Proofs.YtodfnelilhjoeaaW.PrintLast Go.Proofs.YtodfnelilhjoeaaW.PrintMore
attribute [local go_sem] max2_int min2_int max_two min_two max_three min_three max_four min_four
set_option linter.unusedVariables false
set_option linter.unusedSimpArgs false

/-! ### impl_ImpliesLabel: function 163 (by hand) -/
open Go.Proofs.Ytodfnelilhjoeaa.Ni
-- IMPORT Derived.Test.YtodfnelilhjoeaaQNice
def impl_ImpliesLabel.f (k : Nat) (l0 l1 : List Int) : Option Bool := (impl_LabelOk.f k l0).bind fun a => if a = true then (impl_LabelOk.f k l1).bind fun b => if b = true then some (l1.all fun x => l0.any fun y => decide (x = y)) else some false else some false
theorem impl_ImpliesLabel_1.clo (B : Nat) (A0 : Option Addr) (c0 : Nat) (l0 : List Int) (x : Int) (W : World) (hB : W.cell? ⟨B, 0, none⟩ = some (.slice A0 l0.length c0)) (hr0 : Kd.C (Kd.int .i64) W A0 l0.length l0) (hc0 : l0.length ≤ c0) :
  Calls Try.prog 176 #[.int .i64 x, .pointer (some ⟨B, 0, none⟩)] W fun e w' => e = .returned (.bool (!(l0.any fun y => decide (x = y)))) ∧ Below W.heap.size W w' := by
 have HC := Aside0.mk ((slices_Contains_int_int.hand A0 c0 l0 x W hr0 hc0))
 clear hr0 hc0
 go_enter Try.func176, Try.ntmps176
 go_wp2_with (go_at_call 134; refine HC.out.mono ?_; rintro e w' ⟨rfl, hb⟩)
 go_ret
 exact ⟨rfl, hb⟩
set_option maxHeartbeats 4000000 in
theorem impl_ImpliesLabel.calls (k : Nat) (A0 : Option Addr) (c0 : Nat) (l0 : List Int) (A1 : Option Addr) (c1 : Nat) (l1 : List Int) (r : Bool) (w : World) (hr0 : Kd.C (Kd.int .i64) w A0 l0.length l0) (hc0 : l0.length ≤ c0) (hr1 : Kd.C (Kd.int .i64) w A1 l1.length l1) (hc1 : l1.length ≤ c1) (h : impl_ImpliesLabel.f k l0 l1 = some r) :
  Calls Try.prog 163 #[.slice A0 l0.length c0, .slice A1 l1.length c1] w fun e w' => e = .returned (.bool r) ∧ Below w.heap.size w w' := by
 unfold impl_ImpliesLabel.f at h
 obtain ⟨a, ha, h⟩ := Option.bind_eq_some_iff.1 h
 have LA := Aside0.mk fun (W : World) (hb : Below w.heap.size w W) => (impl_LabelOk.calls k A0 c0 l0 a W (Kd.C_below hr0 hb) hc0 ha).mono fun e w' ⟨he, hd⟩ => (⟨he, by first | exact hd | exact hd.below⟩ : e = Ending.returned (.bool a) ∧ Below W.heap.size W w')
 have B0 := Aside0.mk ((Below.refl w.heap.size w).alloc (Nat.le_refl _) (.cells #[.slice A0 l0.length c0] 26))
 cases a with
 | false =>
  rw [if_neg (by decide)] at h
  obtain rfl := Option.some.inj h
  clear hr0 hr1 ha h hc0 hc1
  go_enter Try.func163, Try.ntmps163
  go_wp2_with fail
  refine (LA.out _ B0.out).mono ?_
  rintro e w1 ⟨rfl, hb1⟩
  have B1 := Aside0.mk (B0.out.trans (hb1.mono B0.out.size))
  clear hb1
  go_wp2
  go_ret
  exact ⟨rfl, B1.out⟩
 | true =>
  rw [if_pos rfl] at h
  obtain ⟨b, hb_, h⟩ := Option.bind_eq_some_iff.1 h
  have LB := Aside0.mk fun (W : World) (hb : Below w.heap.size w W) => (impl_LabelOk.calls k A1 c1 l1 b W (Kd.C_below hr1 hb) hc1 hb_).mono fun e w' ⟨he, hd⟩ => (⟨he, by first | exact hd | exact hd.below⟩ : e = Ending.returned (.bool b) ∧ Below W.heap.size W w')
  cases b with
  | false =>
   rw [if_neg (by decide)] at h
   obtain rfl := Option.some.inj h
   clear hr0 hr1 ha h hc0 hc1 hb_
   go_enter Try.func163, Try.ntmps163
   go_wp2_with fail
   refine (LA.out _ B0.out).mono ?_
   rintro e w1 ⟨rfl, hb1⟩
   have B1 := Aside0.mk (B0.out.trans (hb1.mono B0.out.size))
   clear hb1
   go_wp2_with fail
   refine (LB.out _ B1.out).mono ?_
   rintro e w2 ⟨rfl, hb2⟩
   have B2 := Aside0.mk (B1.out.trans (hb2.mono B1.out.size))
   clear hb2
   go_wp2
   go_ret
   exact ⟨rfl, B2.out⟩
  | true =>
   rw [if_pos rfl] at h
   obtain rfl := Option.some.inj h
   have HC := Aside0.mk fun (W : World) (hb : Below w.heap.size w W) (hcell : W.cell? ⟨w.heap.size, 0, none⟩ = some (.slice A0 l0.length c0)) => slices_ContainsFunc_int_int.any (fun x => !(l0.any fun y => decide (x = y))) 176 #[.pointer (some ⟨w.heap.size, 0, none⟩)] (enters_of Try.func176 (by kernel_rfl) rfl) A1 c1 l1 W (Kd.C_below hr1 hb)
    (fun W' x _ hb' => impl_ImpliesLabel_1.clo w.heap.size A0 c0 l0 x W' ((hb'.cell (World.block_lt_of_cell? W _ hcell)).trans hcell) (Kd.C_below hr0 (hb.trans (hb'.mono hb.size))) hc0)
   have HV := Aside0.mk (show (!(l1.any fun x => !(l0.any fun y => decide (x = y)))) = l1.all fun x => l0.any fun y => decide (x = y) by rw [List.not_any_eq_all_not]; simp)
   have C0 := Aside0.mk (show (w.alloc (.cells #[.slice A0 l0.length c0] 26)).cell? ⟨w.heap.size, 0, none⟩ = some (.slice A0 l0.length c0) by go_simp)
   clear hr0 hr1 ha h hc0 hc1 hb_
   go_enter Try.func163, Try.ntmps163
   go_wp2_with fail
   refine (LA.out _ B0.out).mono ?_
   rintro e w1 ⟨rfl, hb1⟩
   have B1 := Aside0.mk (B0.out.trans (hb1.mono B0.out.size))
   have C1 := Aside0.mk ((hb1.cell (World.block_lt_of_cell? _ _ C0.out)).trans C0.out)
   clear hb1
   go_wp2_with fail
   refine (LB.out _ B1.out).mono ?_
   rintro e w2 ⟨rfl, hb2⟩
   have B2 := Aside0.mk (B1.out.trans (hb2.mono B1.out.size))
   have C2 := Aside0.mk ((hb2.cell (World.block_lt_of_cell? _ _ C1.out)).trans C1.out)
   clear hb2
   go_wp2_with fail
   refine (HC.out _ B2.out C2.out).mono ?_
   rintro e w3 ⟨rfl, hb3⟩
   go_wp2
   go_ret
   exact ⟨by rw [← HV.out]; rfl, B2.out.trans (hb3.mono B2.out.size)⟩

end Go.Proofs.Ytodfnelilhjoeaa.Pr

namespace Go.Proofs.Ytodfnelilhjoeaa.Pr
open Go.RowKit Go.Proofs.YtodfnelilhjoeaaW.PrintWords Go.Proofs.Ytodfnelilhjoeaa.Ni
theorem l07Has_f (l : List Int) (x : Int) (hl : l.length ≤ 9223372036854775807) (k : Nat) (hk : 2 ^ 64 ≤ k) : spec_l07Has.f k l x = some (l.any fun y => decide (x = y)) := by
 have key := loop_up l.length (fun k i => spec_l07Has.l0 k x l l.length (i : Int) = some ((l.drop i).any fun y => decide (x = y))) 0
  (fun k _ => by simp [spec_l07Has.l0])
  (fun k i _ hi ih => by
   simp only [spec_l07Has.l0]
   rw [if_pos (by omega), if_pos (by omega), if_pos (by omega), rd_nat, wrap_nat hi (by omega), drop_cons hi 0, List.any_cons]
   by_cases h : l.getD i 0 = x
   ·rw [if_pos h, decide_eq_true h.symm]; rfl
   ·rw [if_neg h, ih, decide_eq_false (fun e => h e.symm)]; rfl) 0 k (Nat.zero_le _) (by omega)
 unfold spec_l07Has.f
 simpa using key
def impB (a b : List Int) : Bool := labB a && labB b && b.all fun x => a.any fun y => decide (x = y)
theorem spec_ImpliesLabel_f (a b : List Int) (ha : a.length ≤ 9223372036854775807) (hb : b.length ≤ 9223372036854775807) (k : Nat) (hk : 2 ^ 65 ≤ k) : spec_ImpliesLabel.f k a b = some (impB a b) := by
 have key : ∀ k, 2 ^ 64 + b.length < k → spec_ImpliesLabel.l0 k a b b.length 0 = some (b.all fun x => a.any fun y => decide (x = y)) := by
  intro k hk
  have := loop_up b.length (fun k i => spec_ImpliesLabel.l0 k a b b.length (i : Int) = some ((b.drop i).all fun x => a.any fun y => decide (x = y))) (2 ^ 64)
   (fun k _ => by simp [spec_ImpliesLabel.l0])
   (fun k i hk hi ih => by
    simp only [spec_ImpliesLabel.l0]
    rw [if_pos (by omega), if_pos (by omega), if_pos (by omega), rd_nat, wrap_nat hi (by omega), drop_cons hi 0, List.all_cons, l07Has_f a _ ha k hk, Option.bind_some]
    cases h : a.any fun y => decide (b.getD i 0 = y)
    ·rfl
    ·rw [if_pos rfl, ih]; rfl) 0 k (Nat.zero_le _) (by omega)
  simpa using this
 unfold spec_ImpliesLabel.f impB
 obtain ⟨m, rfl⟩ : ∃ m, k = m + 1 := ⟨k - 1, by omega⟩
 rw [spec_LabelOk_f a ha _ (by omega), Option.bind_some, spec_LabelOk_f b hb _ (by omega)]
 cases labB a
 ·rfl
 ·rw [if_pos rfl, Option.bind_some]
  cases labB b
  ·rfl
  ·simp only [spec_ImpliesLabel.j0, Bool.not_true, Bool.false_eq_true, if_false]
   rw [key m (by omega)]; rfl
theorem impl_ImpliesLabel_f (a b : List Int) (ha : a.length ≤ 9223372036854775807) (hb : b.length ≤ 9223372036854775807) (k : Nat) (hk : 2 ^ 64 ≤ k) : impl_ImpliesLabel.f k a b = some (impB a b) := by
 unfold impl_ImpliesLabel.f impB
 rw [impl_LabelOk_f a ha k hk, Option.bind_some, impl_LabelOk_f b hb k hk]
 cases labB a
 ·rfl
 ·rw [if_pos rfl, Option.bind_some]
  cases labB b <;> rfl
end Go.Proofs.Ytodfnelilhjoeaa.Pr

namespace Go.Proofs.Ytodfnelilhjoeaa.Pr
open Go.RowKit Go.Proofs.YtodfnelilhjoeaaW.PrintWords Go.Proofs.YtodfnelilhjoeaaW.PrintLast Go.Proofs.YtodfnelilhjoeaaW.PrintMore
attribute [local go_sem] max2_int min2_int max_two min_two max_three min_three max_four min_four
set_option linter.unusedVariables false
set_option linter.unusedSimpArgs false

/-! ### spec_l08Free: function 76 -/
def spec_l08Free.l0 : Nat → Int → List (S90) → Int → Int → Option (Int)
 | 0, _, _, _, _ => none
 | k + 1, x1, x8, x9, x10 => if x10 < x9 then (if 0 ≤ x10 then (if x10 < (x8.length : Int) then (if (rd_T90 x8 x10).f4 = true then (if ((rd_T90 x8 x10).f1) = x1 then (some x10) else (spec_l08Free.l0 k x1 x8 x9 (wrap64 (x10 + 1)))) else (spec_l08Free.l0 k x1 x8 x9 (wrap64 (x10 + 1)))) else (none)) else (none)) else (some (-1))
def spec_l08Free.f (k : Nat) (l0_0 : List (S116)) (l0_1 : List (S90)) (a0_2 : Int) (a1 : Int) : Option (Int) := spec_l08Free.l0 k a1 l0_1 (l0_1.length : Int) 0
set_option maxHeartbeats 8000000 in
set_option maxRecDepth 100000 in
theorem spec_l08Free.calls (k : Nat) (A0_0 : Option Addr) (c0_0 : Nat) (l0_0 : List (S116)) (A0_1 : Option Addr) (c0_1 : Nat) (l0_1 : List (S90)) (a0_2 : Int) (a1 : Int) (r : Int) (w : World) (hr0_0 : Kd.C k116 w A0_0 l0_0.length l0_0) (hc0_0 : l0_0.length ≤ c0_0) (hr0_1 : Kd.C k90 w A0_1 l0_1.length l0_1) (hc0_1 : l0_1.length ≤ c0_1) (h : spec_l08Free.f k l0_0 l0_1 a0_2 a1 = some r) :
  Calls Try.prog 76 #[.agg #[.slice A0_0 l0_0.length c0_0, .slice A0_1 l0_1.length c0_1, .int .i64 a0_2], .int .i64 a1] w fun e w' => e = .returned (.int .i64 r) ∧ Below w.heap.size w w' := by
 have hu35 := Try.underlying35
 have hu90 := Try.underlying90
 have HR0_0 := Aside0.mk hr0_0; have HC0_0 := Aside0.mk hc0_0; clear hr0_0 hc0_0; have HR0_1 := Aside0.mk hr0_1; have HC0_1 := Aside0.mk hc0_1; clear hr0_1 hc0_1
 have HB := Aside0.mk (Below.refl w.heap.size w)
 have H : (spec_l08Free.l0 k a1 l0_1 (l0_1.length : Int) 0) = some r := h
 clear h
 have H' := Aside0.mk H
 clear H
 go_enter Try.func76, Try.ntmps76
 go_wp2_with (first | ((with_reducible refine gate_dst (N := 2) rfl ?_); refine box_event ?hg (N := 2) ?hd (cs := #[.slice A0_0 l0_0.length c0_0, .slice A0_1 l0_1.length c0_1, .int .i64 a0_2]) (t := 35) ?hr ?_; (case hd => rfl); (case hg => rfl); (case hr => first | (go_simp; done) | (go_simp; rfl)); intro gb76001 hg w3 hbox hb; have n0_ := Aside0.mk (below_step (by repeat (first | (with_reducible first | exact HB.out | apply below_alloc | apply pw_below_drewN | apply below_drew1) | exact HB.out)) hb); have n1_ := Aside0.mk (hbox); have n2_ := Aside0.mk ((by rw [hg]; exact (below_size (by repeat (first | (with_reducible first | exact HB.out | apply below_alloc | apply pw_below_drewN | apply below_drew1) | exact HB.out))) : w.heap.size ≤ gb76001)); have n3_ := Aside0.mk ((by rw [hg]; exact (below_size (by repeat (first | (with_reducible first | exact HB.out | apply below_alloc | apply pw_below_drewN | apply below_drew1) | exact HB.out))) : w.heap.size ≤ gb76001)); clear HB; have HB := n0_; have BK76001 := n1_; have GW76001 := n2_; have GE76001 := n3_; clear n0_ n1_ n2_ n3_; clear hb hbox hg; have hcz4_0 : w3.cell? ⟨gb76001, 0, none⟩ = some (.slice A0_0 l0_0.length c0_0) := (blk_cell BK76001.out 0).trans rfl; have hcz4_1 : w3.cell? ⟨gb76001, 1, none⟩ = some (.slice A0_1 l0_1.length c0_1) := (blk_cell BK76001.out 1).trans rfl; have hcz4_2 : w3.cell? ⟨gb76001, 2, none⟩ = some (.int .i64 a0_2) := (blk_cell BK76001.out 2).trans rfl; have hfz4_0 := blk_frozen BK76001.out 0; have hfz4_1 := blk_frozen BK76001.out 1; have hfz4_2 := blk_frozen BK76001.out 2))
 go_loopg [10] k (fun kq v10 w' => ∃ (x10_1 : Int), v10 = .int .i64 x10_1 ∧ Aside0 (spec_l08Free.l0 kq a1 l0_1 (l0_1.length : Int) x10_1 = some r) ∧ Aside0 (kq ≤ k) ∧ Aside0 (w'.heap[gb76001]? = some (.cells #[(.slice A0_0 l0_0.length c0_0), (.slice A0_1 l0_1.length c0_1), .int .i64 a0_2] 35 (0, 0))) ∧ Aside0 (Below w.heap.size w w'))
 case atStart => exact ⟨(0), (by first | rfl | (simp; done) | (simp [*]; done)), H', ⟨Nat.le_refl _⟩, ⟨by (with_reducible repeat (first | refine blk_drewN ?_ _ | refine blk_drew ?_ | refine blk_alloc ?_ _)); exact BK76001.out⟩, ⟨by repeat (first | (with_reducible first | exact HB.out | apply below_alloc | apply pw_below_drewN | apply below_drew1 | refine below_set ?_ GE76001.out) | exact HB.out)⟩⟩
 case round =>
  clear H'
  try clear p2
  try clear hcz4_0
  try clear hcz4_1
  try clear hcz4_2
  try clear hfz4_0
  try clear hfz4_1
  try clear hfz4_2
  obtain ⟨x10_1, rfl, HA, HK1, BK76001, HB⟩ := hrel
  cases gk with
  | zero => exact absurd HA.out (by simp [spec_l08Free.l0])
  | succ k1 =>
   have H := HA.out
   clear HA
   simp only [spec_l08Free.l0] at H
   by_cases c5 : x10_1 < (l0_1.length : Int)
   ·rw [if_pos c5] at H
    have c5b0 : decide (x10_1 < (l0_1.length : Int)) = true := decide_eq_true c5
    clear c5
    by_cases c6 : 0 ≤ x10_1
    ·rw [if_pos c6] at H
     have c6b0 : decide (0 ≤ x10_1) = true := decide_eq_true c6
     clear c6
     by_cases c7 : x10_1 < (l0_1.length : Int)
     ·rw [if_pos c7] at H
      have c7b0 : decide (x10_1 < (l0_1.length : Int)) = true := decide_eq_true c7
      clear c7
      obtain ⟨bq8, hbq8⟩ : ∃ b_ : Bool, b_ = ((rd_T90 l0_1 x10_1).f4) := ⟨_, rfl⟩
      replace H : (if bq8 = true then (if ((rd_T90 l0_1 x10_1).f1) = a1 then (some x10_1) else (spec_l08Free.l0 k1 a1 l0_1 (l0_1.length : Int) (wrap64 (x10_1 + 1)))) else (spec_l08Free.l0 k1 a1 l0_1 (l0_1.length : Int) (wrap64 (x10_1 + 1)))) = some r := by rw [← hbq8] at H; exact H
      have Nbq8 := Aside0.mk hbq8; clear hbq8
      by_cases c9 : bq8 = true
      ·subst c9
       rw [if_pos rfl] at H
       by_cases c10 : ((rd_T90 l0_1 x10_1).f1) = a1
       ·rw [if_pos c10] at H
        have c10b0 : (((rd_T90 l0_1 x10_1).f1) == a1) = true := beq_iff_eq.mpr c10
        clear c10
        obtain rfl := Option.some.inj H
        have p76002 : 0 ≤ (x10_1 : Int) := of_decide_eq_true (by first | (with_reducible assumption) | assumption)
        have q76002 : x10_1 < (l0_1.length : Int) := of_decide_eq_true (by first | (with_reducible assumption) | assumption)
        obtain ⟨ad76002, e76002, hx76002_0, hx76002_1, hx76002_2, hx76002_3, hx76002_4⟩ := at_T90 HR0_1.out x10_1 p76002 q76002
        (try rw [← Nbq8.out] at hx76002_4)
        cases e76002
        replace hx76002_0 := (HB.out.cell (World.block_lt_of_cell? w _ hx76002_0)).trans hx76002_0
        replace hx76002_1 := (HB.out.cell (World.block_lt_of_cell? w _ hx76002_1)).trans hx76002_1
        replace hx76002_2 := (HB.out.cell (World.block_lt_of_cell? w _ hx76002_2)).trans hx76002_2
        replace hx76002_3 := (HB.out.cell (World.block_lt_of_cell? w _ hx76002_3)).trans hx76002_3
        replace hx76002_4 := (HB.out.cell (World.block_lt_of_cell? w _ hx76002_4)).trans hx76002_4
        replace p76002 := eq_true p76002
        replace q76002 := eq_true q76002
        go_wp2_with (first | ((with_reducible refine gate_dst (N := 6) rfl ?_); refine box_event ?hg (N := 6) ?hd (cs := #[.int .i64 0, .int .i64 0, .int .i64 0, .int .i64 0, .bool false]) (t := 90) ?hr ?_; (case hd => rfl); (case hg => rfl); (case hr => first | (go_simp; done) | (go_simp; rfl)); intro gb76003 hg w11 hbox hb; have n0_ := Aside0.mk (blk_below (g := gb76001) (o := .cells #[.slice A0_0 l0_0.length c0_0, .slice (some ad76002) l0_1.length c0_1, .int .i64 a0_2] 35 (0, 0)) (by (with_reducible repeat (first | refine blk_drewN ?_ _ | refine blk_drew ?_ | refine blk_alloc ?_ _)); exact BK76001.out) hb); have n1_ := Aside0.mk (below_step (by repeat (first | (with_reducible first | exact HB.out | apply below_alloc | apply pw_below_drewN | apply below_drew1 | refine below_set ?_ GE76001.out) | exact HB.out)) hb); have n2_ := Aside0.mk (hbox); have n3_ := Aside0.mk ((by rw [hg]; exact (below_size (by repeat (first | (with_reducible first | exact HB.out | apply below_alloc | apply pw_below_drewN | apply below_drew1 | refine below_set ?_ GE76001.out) | exact HB.out))) : w.heap.size ≤ gb76003)); have n4_ := Aside0.mk ((by rw [hg]; exact (below_size (by repeat (first | (with_reducible first | exact HB.out | apply below_alloc | apply pw_below_drewN | apply below_drew1 | refine below_set ?_ GE76001.out) | exact HB.out))) : w.heap.size ≤ gb76003)); have n5_ := Aside0.mk ((by rw [hg]; exact Nat.ne_of_lt (blk_lt (g := gb76001) (o := .cells #[.slice A0_0 l0_0.length c0_0, .slice (some ad76002) l0_1.length c0_1, .int .i64 a0_2] 35 (0, 0)) (by (with_reducible repeat (first | refine blk_drewN ?_ _ | refine blk_drew ?_ | refine blk_alloc ?_ _)); exact BK76001.out)) : gb76001 ≠ gb76003)); have n6_ := Aside0.mk ((by rw [hg]; exact Nat.ne_of_gt (blk_lt (g := gb76001) (o := .cells #[.slice A0_0 l0_0.length c0_0, .slice (some ad76002) l0_1.length c0_1, .int .i64 a0_2] 35 (0, 0)) (by (with_reducible repeat (first | refine blk_drewN ?_ _ | refine blk_drew ?_ | refine blk_alloc ?_ _)); exact BK76001.out)) : gb76003 ≠ gb76001)); clear BK76001; clear HB; have BK76001 := n0_; have HB := n1_; have BK76003 := n2_; have GW76003 := n3_; have GE76003 := n4_; have NB76001_76003 := n5_; have NB76003_76001 := n6_; clear n0_ n1_ n2_ n3_ n4_ n5_ n6_; clear hb hbox hg; have hcz13_0 : w11.cell? ⟨gb76003, 0, none⟩ = some (.int .i64 0) := (blk_cell BK76003.out 0).trans rfl; have hcz13_1 : w11.cell? ⟨gb76003, 1, none⟩ = some (.int .i64 0) := (blk_cell BK76003.out 1).trans rfl; have hcz13_2 : w11.cell? ⟨gb76003, 2, none⟩ = some (.int .i64 0) := (blk_cell BK76003.out 2).trans rfl; have hcz13_3 : w11.cell? ⟨gb76003, 3, none⟩ = some (.int .i64 0) := (blk_cell BK76003.out 3).trans rfl; have hcz13_4 : w11.cell? ⟨gb76003, 4, none⟩ = some (.bool false) := (blk_cell BK76003.out 4).trans rfl; have hfz13_0 := blk_frozen BK76003.out 0; have hfz13_1 := blk_frozen BK76003.out 1; have hfz13_2 := blk_frozen BK76003.out 2; have hfz13_3 := blk_frozen BK76003.out 3; have hfz13_4 := blk_frozen BK76003.out 4))
        go_ret
        exact ⟨by first | rfl | (simp [errW_none, errW_some] <;> rfl) | (simp [*, errW_none, errW_some] <;> rfl), by repeat (first | (with_reducible first | exact HB.out | apply below_alloc | apply pw_below_drewN | apply below_drew1 | refine below_set ?_ GE76001.out | refine below_set ?_ GE76003.out) | exact HB.out)⟩
       ·rw [if_neg c10] at H
        have c10b0 : (((rd_T90 l0_1 x10_1).f1) == a1) = false := beq_eq_false_iff_ne.mpr c10
        have H' := Aside0.mk H
        clear H
        have p76002 : 0 ≤ (x10_1 : Int) := of_decide_eq_true (by first | (with_reducible assumption) | assumption)
        have q76002 : x10_1 < (l0_1.length : Int) := of_decide_eq_true (by first | (with_reducible assumption) | assumption)
        obtain ⟨ad76002, e76002, hx76002_0, hx76002_1, hx76002_2, hx76002_3, hx76002_4⟩ := at_T90 HR0_1.out x10_1 p76002 q76002
        (try rw [← Nbq8.out] at hx76002_4)
        cases e76002
        replace hx76002_0 := (HB.out.cell (World.block_lt_of_cell? w _ hx76002_0)).trans hx76002_0
        replace hx76002_1 := (HB.out.cell (World.block_lt_of_cell? w _ hx76002_1)).trans hx76002_1
        replace hx76002_2 := (HB.out.cell (World.block_lt_of_cell? w _ hx76002_2)).trans hx76002_2
        replace hx76002_3 := (HB.out.cell (World.block_lt_of_cell? w _ hx76002_3)).trans hx76002_3
        replace hx76002_4 := (HB.out.cell (World.block_lt_of_cell? w _ hx76002_4)).trans hx76002_4
        replace p76002 := eq_true p76002
        replace q76002 := eq_true q76002
        go_wp2_with (first | ((with_reducible refine gate_dst (N := 6) rfl ?_); refine box_event ?hg (N := 6) ?hd (cs := #[.int .i64 0, .int .i64 0, .int .i64 0, .int .i64 0, .bool false]) (t := 90) ?hr ?_; (case hd => rfl); (case hg => rfl); (case hr => first | (go_simp; done) | (go_simp; rfl)); intro gb76003 hg w14 hbox hb; have n0_ := Aside0.mk (blk_below (g := gb76001) (o := .cells #[.slice A0_0 l0_0.length c0_0, .slice (some ad76002) l0_1.length c0_1, .int .i64 a0_2] 35 (0, 0)) (by (with_reducible repeat (first | refine blk_drewN ?_ _ | refine blk_drew ?_ | refine blk_alloc ?_ _)); exact BK76001.out) hb); have n1_ := Aside0.mk (below_step (by repeat (first | (with_reducible first | exact HB.out | apply below_alloc | apply pw_below_drewN | apply below_drew1 | refine below_set ?_ GE76001.out) | exact HB.out)) hb); have n2_ := Aside0.mk (hbox); have n3_ := Aside0.mk ((by rw [hg]; exact (below_size (by repeat (first | (with_reducible first | exact HB.out | apply below_alloc | apply pw_below_drewN | apply below_drew1 | refine below_set ?_ GE76001.out) | exact HB.out))) : w.heap.size ≤ gb76003)); have n4_ := Aside0.mk ((by rw [hg]; exact (below_size (by repeat (first | (with_reducible first | exact HB.out | apply below_alloc | apply pw_below_drewN | apply below_drew1 | refine below_set ?_ GE76001.out) | exact HB.out))) : w.heap.size ≤ gb76003)); have n5_ := Aside0.mk ((by rw [hg]; exact Nat.ne_of_lt (blk_lt (g := gb76001) (o := .cells #[.slice A0_0 l0_0.length c0_0, .slice (some ad76002) l0_1.length c0_1, .int .i64 a0_2] 35 (0, 0)) (by (with_reducible repeat (first | refine blk_drewN ?_ _ | refine blk_drew ?_ | refine blk_alloc ?_ _)); exact BK76001.out)) : gb76001 ≠ gb76003)); have n6_ := Aside0.mk ((by rw [hg]; exact Nat.ne_of_gt (blk_lt (g := gb76001) (o := .cells #[.slice A0_0 l0_0.length c0_0, .slice (some ad76002) l0_1.length c0_1, .int .i64 a0_2] 35 (0, 0)) (by (with_reducible repeat (first | refine blk_drewN ?_ _ | refine blk_drew ?_ | refine blk_alloc ?_ _)); exact BK76001.out)) : gb76003 ≠ gb76001)); clear BK76001; clear HB; have BK76001 := n0_; have HB := n1_; have BK76003 := n2_; have GW76003 := n3_; have GE76003 := n4_; have NB76001_76003 := n5_; have NB76003_76001 := n6_; clear n0_ n1_ n2_ n3_ n4_ n5_ n6_; clear hb hbox hg; have hcz16_0 : w14.cell? ⟨gb76003, 0, none⟩ = some (.int .i64 0) := (blk_cell BK76003.out 0).trans rfl; have hcz16_1 : w14.cell? ⟨gb76003, 1, none⟩ = some (.int .i64 0) := (blk_cell BK76003.out 1).trans rfl; have hcz16_2 : w14.cell? ⟨gb76003, 2, none⟩ = some (.int .i64 0) := (blk_cell BK76003.out 2).trans rfl; have hcz16_3 : w14.cell? ⟨gb76003, 3, none⟩ = some (.int .i64 0) := (blk_cell BK76003.out 3).trans rfl; have hcz16_4 : w14.cell? ⟨gb76003, 4, none⟩ = some (.bool false) := (blk_cell BK76003.out 4).trans rfl; have hfz16_0 := blk_frozen BK76003.out 0; have hfz16_1 := blk_frozen BK76003.out 1; have hfz16_2 := blk_frozen BK76003.out 2; have hfz16_3 := blk_frozen BK76003.out 3; have hfz16_4 := blk_frozen BK76003.out 4))
        go_roundg k1
        case measure => have := HK1.out; omega
        case rel => exact ⟨(wrap64 (x10_1 + 1)), (by first | rfl | (simp; done) | (simp [*]; done)), H', ⟨by have := HK1.out; omega⟩, ⟨by (with_reducible repeat (first | refine blk_drewN ?_ _ | refine blk_drew ?_ | refine blk_alloc ?_ _)); refine blk_far ?_ NB76001_76003.out _; (with_reducible repeat (first | refine blk_drewN ?_ _ | refine blk_drew ?_ | refine blk_alloc ?_ _)); refine blk_far ?_ NB76001_76003.out _; (with_reducible repeat (first | refine blk_drewN ?_ _ | refine blk_drew ?_ | refine blk_alloc ?_ _)); refine blk_far ?_ NB76001_76003.out _; (with_reducible repeat (first | refine blk_drewN ?_ _ | refine blk_drew ?_ | refine blk_alloc ?_ _)); refine blk_far ?_ NB76001_76003.out _; (with_reducible repeat (first | refine blk_drewN ?_ _ | refine blk_drew ?_ | refine blk_alloc ?_ _)); refine blk_far ?_ NB76001_76003.out _; (with_reducible repeat (first | refine blk_drewN ?_ _ | refine blk_drew ?_ | refine blk_alloc ?_ _)); exact BK76001.out⟩, ⟨by repeat (first | (with_reducible first | exact HB.out | apply below_alloc | apply pw_below_drewN | apply below_drew1 | refine below_set ?_ GE76001.out | refine below_set ?_ GE76003.out) | exact HB.out)⟩⟩
      ·replace c9 := Bool.eq_false_iff.mpr c9
       subst c9
       have H1 : (spec_l08Free.l0 k1 a1 l0_1 (l0_1.length : Int) (wrap64 (x10_1 + 1))) = some r := by rw [if_neg (show ¬ (false = true) by decide)] at H; exact H
       clear H
       have H := H1
       clear H1
       have H' := Aside0.mk H
       clear H
       have p76002 : 0 ≤ (x10_1 : Int) := of_decide_eq_true (by first | (with_reducible assumption) | assumption)
       have q76002 : x10_1 < (l0_1.length : Int) := of_decide_eq_true (by first | (with_reducible assumption) | assumption)
       obtain ⟨ad76002, e76002, hx76002_0, hx76002_1, hx76002_2, hx76002_3, hx76002_4⟩ := at_T90 HR0_1.out x10_1 p76002 q76002
       (try rw [← Nbq8.out] at hx76002_4)
       cases e76002
       replace hx76002_0 := (HB.out.cell (World.block_lt_of_cell? w _ hx76002_0)).trans hx76002_0
       replace hx76002_1 := (HB.out.cell (World.block_lt_of_cell? w _ hx76002_1)).trans hx76002_1
       replace hx76002_2 := (HB.out.cell (World.block_lt_of_cell? w _ hx76002_2)).trans hx76002_2
       replace hx76002_3 := (HB.out.cell (World.block_lt_of_cell? w _ hx76002_3)).trans hx76002_3
       replace hx76002_4 := (HB.out.cell (World.block_lt_of_cell? w _ hx76002_4)).trans hx76002_4
       replace p76002 := eq_true p76002
       replace q76002 := eq_true q76002
       go_wp2_with (first | ((with_reducible refine gate_dst (N := 6) rfl ?_); refine box_event ?hg (N := 6) ?hd (cs := #[.int .i64 0, .int .i64 0, .int .i64 0, .int .i64 0, .bool false]) (t := 90) ?hr ?_; (case hd => rfl); (case hg => rfl); (case hr => first | (go_simp; done) | (go_simp; rfl)); intro gb76003 hg w17 hbox hb; have n0_ := Aside0.mk (blk_below (g := gb76001) (o := .cells #[.slice A0_0 l0_0.length c0_0, .slice (some ad76002) l0_1.length c0_1, .int .i64 a0_2] 35 (0, 0)) (by (with_reducible repeat (first | refine blk_drewN ?_ _ | refine blk_drew ?_ | refine blk_alloc ?_ _)); exact BK76001.out) hb); have n1_ := Aside0.mk (below_step (by repeat (first | (with_reducible first | exact HB.out | apply below_alloc | apply pw_below_drewN | apply below_drew1 | refine below_set ?_ GE76001.out) | exact HB.out)) hb); have n2_ := Aside0.mk (hbox); have n3_ := Aside0.mk ((by rw [hg]; exact (below_size (by repeat (first | (with_reducible first | exact HB.out | apply below_alloc | apply pw_below_drewN | apply below_drew1 | refine below_set ?_ GE76001.out) | exact HB.out))) : w.heap.size ≤ gb76003)); have n4_ := Aside0.mk ((by rw [hg]; exact (below_size (by repeat (first | (with_reducible first | exact HB.out | apply below_alloc | apply pw_below_drewN | apply below_drew1 | refine below_set ?_ GE76001.out) | exact HB.out))) : w.heap.size ≤ gb76003)); have n5_ := Aside0.mk ((by rw [hg]; exact Nat.ne_of_lt (blk_lt (g := gb76001) (o := .cells #[.slice A0_0 l0_0.length c0_0, .slice (some ad76002) l0_1.length c0_1, .int .i64 a0_2] 35 (0, 0)) (by (with_reducible repeat (first | refine blk_drewN ?_ _ | refine blk_drew ?_ | refine blk_alloc ?_ _)); exact BK76001.out)) : gb76001 ≠ gb76003)); have n6_ := Aside0.mk ((by rw [hg]; exact Nat.ne_of_gt (blk_lt (g := gb76001) (o := .cells #[.slice A0_0 l0_0.length c0_0, .slice (some ad76002) l0_1.length c0_1, .int .i64 a0_2] 35 (0, 0)) (by (with_reducible repeat (first | refine blk_drewN ?_ _ | refine blk_drew ?_ | refine blk_alloc ?_ _)); exact BK76001.out)) : gb76003 ≠ gb76001)); clear BK76001; clear HB; have BK76001 := n0_; have HB := n1_; have BK76003 := n2_; have GW76003 := n3_; have GE76003 := n4_; have NB76001_76003 := n5_; have NB76003_76001 := n6_; clear n0_ n1_ n2_ n3_ n4_ n5_ n6_; clear hb hbox hg; have hcz19_0 : w17.cell? ⟨gb76003, 0, none⟩ = some (.int .i64 0) := (blk_cell BK76003.out 0).trans rfl; have hcz19_1 : w17.cell? ⟨gb76003, 1, none⟩ = some (.int .i64 0) := (blk_cell BK76003.out 1).trans rfl; have hcz19_2 : w17.cell? ⟨gb76003, 2, none⟩ = some (.int .i64 0) := (blk_cell BK76003.out 2).trans rfl; have hcz19_3 : w17.cell? ⟨gb76003, 3, none⟩ = some (.int .i64 0) := (blk_cell BK76003.out 3).trans rfl; have hcz19_4 : w17.cell? ⟨gb76003, 4, none⟩ = some (.bool false) := (blk_cell BK76003.out 4).trans rfl; have hfz19_0 := blk_frozen BK76003.out 0; have hfz19_1 := blk_frozen BK76003.out 1; have hfz19_2 := blk_frozen BK76003.out 2; have hfz19_3 := blk_frozen BK76003.out 3; have hfz19_4 := blk_frozen BK76003.out 4))
       go_roundg k1
       case measure => have := HK1.out; omega
       case rel => exact ⟨(wrap64 (x10_1 + 1)), (by first | rfl | (simp; done) | (simp [*]; done)), H', ⟨by have := HK1.out; omega⟩, ⟨by (with_reducible repeat (first | refine blk_drewN ?_ _ | refine blk_drew ?_ | refine blk_alloc ?_ _)); refine blk_far ?_ NB76001_76003.out _; (with_reducible repeat (first | refine blk_drewN ?_ _ | refine blk_drew ?_ | refine blk_alloc ?_ _)); refine blk_far ?_ NB76001_76003.out _; (with_reducible repeat (first | refine blk_drewN ?_ _ | refine blk_drew ?_ | refine blk_alloc ?_ _)); refine blk_far ?_ NB76001_76003.out _; (with_reducible repeat (first | refine blk_drewN ?_ _ | refine blk_drew ?_ | refine blk_alloc ?_ _)); refine blk_far ?_ NB76001_76003.out _; (with_reducible repeat (first | refine blk_drewN ?_ _ | refine blk_drew ?_ | refine blk_alloc ?_ _)); refine blk_far ?_ NB76001_76003.out _; (with_reducible repeat (first | refine blk_drewN ?_ _ | refine blk_drew ?_ | refine blk_alloc ?_ _)); exact BK76001.out⟩, ⟨by repeat (first | (with_reducible first | exact HB.out | apply below_alloc | apply pw_below_drewN | apply below_drew1 | refine below_set ?_ GE76001.out | refine below_set ?_ GE76003.out) | exact HB.out)⟩⟩
     ·rw [if_neg c7] at H
      exact absurd H (by simp)
    ·rw [if_neg c6] at H
     exact absurd H (by simp)
   ·rw [if_neg c5] at H
    have c5b0 : decide (x10_1 < (l0_1.length : Int)) = false := decide_eq_false c5
    clear c5
    obtain rfl := Option.some.inj H
    go_wp2
    go_ret
    exact ⟨by first | rfl | (simp [errW_none, errW_some] <;> rfl) | (simp [*, errW_none, errW_some] <;> rfl), by repeat (first | (with_reducible first | exact HB.out | apply below_alloc | apply pw_below_drewN | apply below_drew1 | refine below_set ?_ GE76001.out) | exact HB.out)⟩

end Go.Proofs.Ytodfnelilhjoeaa.Pr

namespace Go.Proofs.Ytodfnelilhjoeaa.Pr
open Go.RowKit Go.Proofs.YtodfnelilhjoeaaW.PrintWords Go.Proofs.YtodfnelilhjoeaaW.PrintLast Go.Proofs.YtodfnelilhjoeaaW.PrintMore
attribute [local go_sem] max2_int min2_int max_two min_two max_three min_three max_four min_four
set_option linter.unusedVariables false
set_option linter.unusedSimpArgs false

/-! ### spec_l08Watcher: function 69 -/
def spec_l08Watcher.l0 : Nat → Int → List (S116) → Int → Int → Option (Int)
 | 0, _, _, _, _ => none
 | k + 1, x1, x8, x9, x10 => if x10 < x9 then (if 0 ≤ x10 then (if x10 < (x8.length : Int) then (if ((rd_T116 x8 x10).f2) = x1 then (some x10) else (spec_l08Watcher.l0 k x1 x8 x9 (wrap64 (x10 + 1)))) else (none)) else (none)) else (some (-1))
def spec_l08Watcher.f (k : Nat) (l0_0 : List (S116)) (l0_1 : List (S90)) (a0_2 : Int) (a1 : Int) : Option (Int) := spec_l08Watcher.l0 k a1 l0_0 (l0_0.length : Int) 0
set_option maxHeartbeats 8000000 in
set_option maxRecDepth 100000 in
theorem spec_l08Watcher.calls (k : Nat) (A0_0 : Option Addr) (c0_0 : Nat) (l0_0 : List (S116)) (A0_1 : Option Addr) (c0_1 : Nat) (l0_1 : List (S90)) (a0_2 : Int) (a1 : Int) (r : Int) (w : World) (hr0_0 : Kd.C k116 w A0_0 l0_0.length l0_0) (hc0_0 : l0_0.length ≤ c0_0) (hr0_1 : Kd.C k90 w A0_1 l0_1.length l0_1) (hc0_1 : l0_1.length ≤ c0_1) (h : spec_l08Watcher.f k l0_0 l0_1 a0_2 a1 = some r) :
  Calls Try.prog 69 #[.agg #[.slice A0_0 l0_0.length c0_0, .slice A0_1 l0_1.length c0_1, .int .i64 a0_2], .int .i64 a1] w fun e w' => e = .returned (.int .i64 r) ∧ Below w.heap.size w w' := by
 have hu35 := Try.underlying35
 have hu116 := Try.underlying116
 have HR0_0 := Aside0.mk hr0_0; have HC0_0 := Aside0.mk hc0_0; clear hr0_0 hc0_0; have HR0_1 := Aside0.mk hr0_1; have HC0_1 := Aside0.mk hc0_1; clear hr0_1 hc0_1
 have HB := Aside0.mk (Below.refl w.heap.size w)
 have H : (spec_l08Watcher.l0 k a1 l0_0 (l0_0.length : Int) 0) = some r := h
 clear h
 have H' := Aside0.mk H
 clear H
 go_enter Try.func69, Try.ntmps69
 go_wp2_with (first | ((with_reducible refine gate_dst (N := 2) rfl ?_); refine box_event ?hg (N := 2) ?hd (cs := #[.slice A0_0 l0_0.length c0_0, .slice A0_1 l0_1.length c0_1, .int .i64 a0_2]) (t := 35) ?hr ?_; (case hd => rfl); (case hg => rfl); (case hr => first | (go_simp; done) | (go_simp; rfl)); intro gb69001 hg w3 hbox hb; have n0_ := Aside0.mk (below_step (by repeat (first | (with_reducible first | exact HB.out | apply below_alloc | apply pw_below_drewN | apply below_drew1) | exact HB.out)) hb); have n1_ := Aside0.mk (hbox); have n2_ := Aside0.mk ((by rw [hg]; exact (below_size (by repeat (first | (with_reducible first | exact HB.out | apply below_alloc | apply pw_below_drewN | apply below_drew1) | exact HB.out))) : w.heap.size ≤ gb69001)); have n3_ := Aside0.mk ((by rw [hg]; exact (below_size (by repeat (first | (with_reducible first | exact HB.out | apply below_alloc | apply pw_below_drewN | apply below_drew1) | exact HB.out))) : w.heap.size ≤ gb69001)); clear HB; have HB := n0_; have BK69001 := n1_; have GW69001 := n2_; have GE69001 := n3_; clear n0_ n1_ n2_ n3_; clear hb hbox hg; have hcz4_0 : w3.cell? ⟨gb69001, 0, none⟩ = some (.slice A0_0 l0_0.length c0_0) := (blk_cell BK69001.out 0).trans rfl; have hcz4_1 : w3.cell? ⟨gb69001, 1, none⟩ = some (.slice A0_1 l0_1.length c0_1) := (blk_cell BK69001.out 1).trans rfl; have hcz4_2 : w3.cell? ⟨gb69001, 2, none⟩ = some (.int .i64 a0_2) := (blk_cell BK69001.out 2).trans rfl; have hfz4_0 := blk_frozen BK69001.out 0; have hfz4_1 := blk_frozen BK69001.out 1; have hfz4_2 := blk_frozen BK69001.out 2))
 go_loopg [10] k (fun kq v10 w' => ∃ (x10_1 : Int), v10 = .int .i64 x10_1 ∧ Aside0 (spec_l08Watcher.l0 kq a1 l0_0 (l0_0.length : Int) x10_1 = some r) ∧ Aside0 (kq ≤ k) ∧ Aside0 (w'.heap[gb69001]? = some (.cells #[(.slice A0_0 l0_0.length c0_0), (.slice A0_1 l0_1.length c0_1), .int .i64 a0_2] 35 (0, 0))) ∧ Aside0 (Below w.heap.size w w'))
 case atStart => exact ⟨(0), (by first | rfl | (simp; done) | (simp [*]; done)), H', ⟨Nat.le_refl _⟩, ⟨by (with_reducible repeat (first | refine blk_drewN ?_ _ | refine blk_drew ?_ | refine blk_alloc ?_ _)); exact BK69001.out⟩, ⟨by repeat (first | (with_reducible first | exact HB.out | apply below_alloc | apply pw_below_drewN | apply below_drew1 | refine below_set ?_ GE69001.out) | exact HB.out)⟩⟩
 case round =>
  clear H'
  try clear p2
  try clear hcz4_0
  try clear hcz4_1
  try clear hcz4_2
  try clear hfz4_0
  try clear hfz4_1
  try clear hfz4_2
  obtain ⟨x10_1, rfl, HA, HK1, BK69001, HB⟩ := hrel
  cases gk with
  | zero => exact absurd HA.out (by simp [spec_l08Watcher.l0])
  | succ k1 =>
   have H := HA.out
   clear HA
   simp only [spec_l08Watcher.l0] at H
   by_cases c5 : x10_1 < (l0_0.length : Int)
   ·rw [if_pos c5] at H
    have c5b0 : decide (x10_1 < (l0_0.length : Int)) = true := decide_eq_true c5
    clear c5
    by_cases c6 : 0 ≤ x10_1
    ·rw [if_pos c6] at H
     have c6b0 : decide (0 ≤ x10_1) = true := decide_eq_true c6
     clear c6
     by_cases c7 : x10_1 < (l0_0.length : Int)
     ·rw [if_pos c7] at H
      have c7b0 : decide (x10_1 < (l0_0.length : Int)) = true := decide_eq_true c7
      clear c7
      by_cases c8 : ((rd_T116 l0_0 x10_1).f2) = a1
      ·rw [if_pos c8] at H
       have c8b0 : (((rd_T116 l0_0 x10_1).f2) == a1) = true := beq_iff_eq.mpr c8
       have c8b1 : (((rd_T116 l0_0 x10_1).f2) != a1) = false := bne_eq_false_iff_eq.mpr c8
       clear c8
       obtain rfl := Option.some.inj H
       have p69002 : 0 ≤ (x10_1 : Int) := of_decide_eq_true (by first | (with_reducible assumption) | assumption)
       have q69002 : x10_1 < (l0_0.length : Int) := of_decide_eq_true (by first | (with_reducible assumption) | assumption)
       obtain ⟨ad69002, A69002_1, c69002_1, e69002, hx69002_0, hx69002_1, hx69002_2, hl69002_1, hi69002_1⟩ := at_T116 HR0_0.out x10_1 p69002 q69002
       cases e69002
       replace hx69002_0 := (HB.out.cell (World.block_lt_of_cell? w _ hx69002_0)).trans hx69002_0
       replace hx69002_1 := (HB.out.cell (World.block_lt_of_cell? w _ hx69002_1)).trans hx69002_1
       replace hx69002_2 := (HB.out.cell (World.block_lt_of_cell? w _ hx69002_2)).trans hx69002_2
       have HR69002_1 := Aside0.mk hi69002_1; have HC69002_1 := Aside0.mk hl69002_1; clear hi69002_1 hl69002_1
       replace p69002 := eq_true p69002
       replace q69002 := eq_true q69002
       go_wp2_with (first | ((with_reducible refine gate_dst (N := 6) rfl ?_); refine box_event ?hg (N := 6) ?hd (cs := #[.string (⟨#[]⟩ : ByteArray), .slice none 0 0, .int .i64 0]) (t := 116) ?hr ?_; (case hd => rfl); (case hg => rfl); (case hr => first | (go_simp; done) | (go_simp; rfl)); intro gb69003 hg w9 hbox hb; have n0_ := Aside0.mk (blk_below (g := gb69001) (o := .cells #[.slice (some ad69002) l0_0.length c0_0, .slice A0_1 l0_1.length c0_1, .int .i64 a0_2] 35 (0, 0)) (by (with_reducible repeat (first | refine blk_drewN ?_ _ | refine blk_drew ?_ | refine blk_alloc ?_ _)); exact BK69001.out) hb); have n1_ := Aside0.mk (below_step (by repeat (first | (with_reducible first | exact HB.out | apply below_alloc | apply pw_below_drewN | apply below_drew1 | refine below_set ?_ GE69001.out) | exact HB.out)) hb); have n2_ := Aside0.mk (hbox); have n3_ := Aside0.mk ((by rw [hg]; exact (below_size (by repeat (first | (with_reducible first | exact HB.out | apply below_alloc | apply pw_below_drewN | apply below_drew1 | refine below_set ?_ GE69001.out) | exact HB.out))) : w.heap.size ≤ gb69003)); have n4_ := Aside0.mk ((by rw [hg]; exact (below_size (by repeat (first | (with_reducible first | exact HB.out | apply below_alloc | apply pw_below_drewN | apply below_drew1 | refine below_set ?_ GE69001.out) | exact HB.out))) : w.heap.size ≤ gb69003)); have n5_ := Aside0.mk ((by rw [hg]; exact Nat.ne_of_lt (blk_lt (g := gb69001) (o := .cells #[.slice (some ad69002) l0_0.length c0_0, .slice A0_1 l0_1.length c0_1, .int .i64 a0_2] 35 (0, 0)) (by (with_reducible repeat (first | refine blk_drewN ?_ _ | refine blk_drew ?_ | refine blk_alloc ?_ _)); exact BK69001.out)) : gb69001 ≠ gb69003)); have n6_ := Aside0.mk ((by rw [hg]; exact Nat.ne_of_gt (blk_lt (g := gb69001) (o := .cells #[.slice (some ad69002) l0_0.length c0_0, .slice A0_1 l0_1.length c0_1, .int .i64 a0_2] 35 (0, 0)) (by (with_reducible repeat (first | refine blk_drewN ?_ _ | refine blk_drew ?_ | refine blk_alloc ?_ _)); exact BK69001.out)) : gb69003 ≠ gb69001)); clear BK69001; clear HB; have BK69001 := n0_; have HB := n1_; have BK69003 := n2_; have GW69003 := n3_; have GE69003 := n4_; have NB69001_69003 := n5_; have NB69003_69001 := n6_; clear n0_ n1_ n2_ n3_ n4_ n5_ n6_; clear hb hbox hg; have hnb10 := NB69003_69001.out; have hnc10 := NB69001_69003.out; have hcz11_0 : w9.cell? ⟨gb69003, 0, none⟩ = some (.string (⟨#[]⟩ : ByteArray)) := (blk_cell BK69003.out 0).trans rfl; have hcz11_1 : w9.cell? ⟨gb69003, 1, none⟩ = some (.slice none 0 0) := (blk_cell BK69003.out 1).trans rfl; have hcz11_2 : w9.cell? ⟨gb69003, 2, none⟩ = some (.int .i64 0) := (blk_cell BK69003.out 2).trans rfl; have hfz11_0 := blk_frozen BK69003.out 0; have hfz11_1 := blk_frozen BK69003.out 1; have hfz11_2 := blk_frozen BK69003.out 2))
       go_ret
       exact ⟨by first | rfl | (simp [errW_none, errW_some] <;> rfl) | (simp [*, errW_none, errW_some] <;> rfl), by repeat (first | (with_reducible first | exact HB.out | apply below_alloc | apply pw_below_drewN | apply below_drew1 | refine below_set ?_ GE69001.out | refine below_set ?_ GE69003.out) | exact HB.out)⟩
      ·rw [if_neg c8] at H
       have c8b0 : (((rd_T116 l0_0 x10_1).f2) == a1) = false := beq_eq_false_iff_ne.mpr c8
       have c8b1 : (((rd_T116 l0_0 x10_1).f2) != a1) = true := bne_iff_ne.mpr c8
       have H' := Aside0.mk H
       clear H
       have p69002 : 0 ≤ (x10_1 : Int) := of_decide_eq_true (by first | (with_reducible assumption) | assumption)
       have q69002 : x10_1 < (l0_0.length : Int) := of_decide_eq_true (by first | (with_reducible assumption) | assumption)
       obtain ⟨ad69002, A69002_1, c69002_1, e69002, hx69002_0, hx69002_1, hx69002_2, hl69002_1, hi69002_1⟩ := at_T116 HR0_0.out x10_1 p69002 q69002
       cases e69002
       replace hx69002_0 := (HB.out.cell (World.block_lt_of_cell? w _ hx69002_0)).trans hx69002_0
       replace hx69002_1 := (HB.out.cell (World.block_lt_of_cell? w _ hx69002_1)).trans hx69002_1
       replace hx69002_2 := (HB.out.cell (World.block_lt_of_cell? w _ hx69002_2)).trans hx69002_2
       have HR69002_1 := Aside0.mk hi69002_1; have HC69002_1 := Aside0.mk hl69002_1; clear hi69002_1 hl69002_1
       replace p69002 := eq_true p69002
       replace q69002 := eq_true q69002
       go_wp2_with (first | ((with_reducible refine gate_dst (N := 6) rfl ?_); refine box_event ?hg (N := 6) ?hd (cs := #[.string (⟨#[]⟩ : ByteArray), .slice none 0 0, .int .i64 0]) (t := 116) ?hr ?_; (case hd => rfl); (case hg => rfl); (case hr => first | (go_simp; done) | (go_simp; rfl)); intro gb69003 hg w12 hbox hb; have n0_ := Aside0.mk (blk_below (g := gb69001) (o := .cells #[.slice (some ad69002) l0_0.length c0_0, .slice A0_1 l0_1.length c0_1, .int .i64 a0_2] 35 (0, 0)) (by (with_reducible repeat (first | refine blk_drewN ?_ _ | refine blk_drew ?_ | refine blk_alloc ?_ _)); exact BK69001.out) hb); have n1_ := Aside0.mk (below_step (by repeat (first | (with_reducible first | exact HB.out | apply below_alloc | apply pw_below_drewN | apply below_drew1 | refine below_set ?_ GE69001.out) | exact HB.out)) hb); have n2_ := Aside0.mk (hbox); have n3_ := Aside0.mk ((by rw [hg]; exact (below_size (by repeat (first | (with_reducible first | exact HB.out | apply below_alloc | apply pw_below_drewN | apply below_drew1 | refine below_set ?_ GE69001.out) | exact HB.out))) : w.heap.size ≤ gb69003)); have n4_ := Aside0.mk ((by rw [hg]; exact (below_size (by repeat (first | (with_reducible first | exact HB.out | apply below_alloc | apply pw_below_drewN | apply below_drew1 | refine below_set ?_ GE69001.out) | exact HB.out))) : w.heap.size ≤ gb69003)); have n5_ := Aside0.mk ((by rw [hg]; exact Nat.ne_of_lt (blk_lt (g := gb69001) (o := .cells #[.slice (some ad69002) l0_0.length c0_0, .slice A0_1 l0_1.length c0_1, .int .i64 a0_2] 35 (0, 0)) (by (with_reducible repeat (first | refine blk_drewN ?_ _ | refine blk_drew ?_ | refine blk_alloc ?_ _)); exact BK69001.out)) : gb69001 ≠ gb69003)); have n6_ := Aside0.mk ((by rw [hg]; exact Nat.ne_of_gt (blk_lt (g := gb69001) (o := .cells #[.slice (some ad69002) l0_0.length c0_0, .slice A0_1 l0_1.length c0_1, .int .i64 a0_2] 35 (0, 0)) (by (with_reducible repeat (first | refine blk_drewN ?_ _ | refine blk_drew ?_ | refine blk_alloc ?_ _)); exact BK69001.out)) : gb69003 ≠ gb69001)); clear BK69001; clear HB; have BK69001 := n0_; have HB := n1_; have BK69003 := n2_; have GW69003 := n3_; have GE69003 := n4_; have NB69001_69003 := n5_; have NB69003_69001 := n6_; clear n0_ n1_ n2_ n3_ n4_ n5_ n6_; clear hb hbox hg; have hnb13 := NB69003_69001.out; have hnc13 := NB69001_69003.out; have hcz14_0 : w12.cell? ⟨gb69003, 0, none⟩ = some (.string (⟨#[]⟩ : ByteArray)) := (blk_cell BK69003.out 0).trans rfl; have hcz14_1 : w12.cell? ⟨gb69003, 1, none⟩ = some (.slice none 0 0) := (blk_cell BK69003.out 1).trans rfl; have hcz14_2 : w12.cell? ⟨gb69003, 2, none⟩ = some (.int .i64 0) := (blk_cell BK69003.out 2).trans rfl; have hfz14_0 := blk_frozen BK69003.out 0; have hfz14_1 := blk_frozen BK69003.out 1; have hfz14_2 := blk_frozen BK69003.out 2))
       go_roundg k1
       case measure => have := HK1.out; omega
       case rel => exact ⟨(wrap64 (x10_1 + 1)), (by first | rfl | (simp; done) | (simp [*]; done)), H', ⟨by have := HK1.out; omega⟩, ⟨by (with_reducible repeat (first | refine blk_drewN ?_ _ | refine blk_drew ?_ | refine blk_alloc ?_ _)); refine blk_far ?_ NB69001_69003.out _; (with_reducible repeat (first | refine blk_drewN ?_ _ | refine blk_drew ?_ | refine blk_alloc ?_ _)); refine blk_far ?_ NB69001_69003.out _; (with_reducible repeat (first | refine blk_drewN ?_ _ | refine blk_drew ?_ | refine blk_alloc ?_ _)); refine blk_far ?_ NB69001_69003.out _; (with_reducible repeat (first | refine blk_drewN ?_ _ | refine blk_drew ?_ | refine blk_alloc ?_ _)); exact BK69001.out⟩, ⟨by repeat (first | (with_reducible first | exact HB.out | apply below_alloc | apply pw_below_drewN | apply below_drew1 | refine below_set ?_ GE69001.out | refine below_set ?_ GE69003.out) | exact HB.out)⟩⟩
     ·rw [if_neg c7] at H
      exact absurd H (by simp)
    ·rw [if_neg c6] at H
     exact absurd H (by simp)
   ·rw [if_neg c5] at H
    have c5b0 : decide (x10_1 < (l0_0.length : Int)) = false := decide_eq_false c5
    clear c5
    obtain rfl := Option.some.inj H
    go_wp2
    go_ret
    exact ⟨by first | rfl | (simp [errW_none, errW_some] <;> rfl) | (simp [*, errW_none, errW_some] <;> rfl), by repeat (first | (with_reducible first | exact HB.out | apply below_alloc | apply pw_below_drewN | apply below_drew1 | refine below_set ?_ GE69001.out) | exact HB.out)⟩

end Go.Proofs.Ytodfnelilhjoeaa.Pr

namespace Go.Proofs.Ytodfnelilhjoeaa.Pr
open Go.RowKit Go.Proofs.YtodfnelilhjoeaaW.PrintWords Go.Proofs.Ytodfnelilhjoeaa.Ni
def freeI (ts : List PTie) (node : Int) : Int := idxOf (fun t => t.f4 && decide (t.f1 = node)) ts
def watchI (ns : List PNode) (p : Int) : Int := idxOf (fun n => decide (n.f2 = p)) ns
def inB (a b c : Int) : Bool := decide (b ≤ a) && decide (a ≤ c)
theorem l01In_f (a b c : Int) : spec_l01In.f a b c = some (inB a b c) := by
 unfold spec_l01In.f inB
 by_cases h : a ≥ b
 ·rw [if_pos h, decide_eq_true (show b ≤ a from h), Bool.true_and]
 ·rw [if_neg h, decide_eq_false (show ¬ b ≤ a from h), Bool.false_and]
theorem l08Free_f (ns : List PNode) (ts : List PTie) (z : Int) (node : Int) (hl : ts.length ≤ 9223372036854775807) (k : Nat) (hk : 2 ^ 64 ≤ k) : spec_l08Free.f k ns ts z node = some (freeI ts node) := by
 have key := loop_up ts.length (fun k i => (∀ j y, j < i → ts[j]? = some y → (y.f4 && decide (y.f1 = node)) = false) → spec_l08Free.l0 k node ts ts.length (i : Int) = some (freeI ts node)) 0
  (fun k _ hb => by
   simp only [spec_l08Free.l0]
   rw [if_neg (by omega), freeI, idxOf_miss _ _ hb])
  (fun k i _ hi ih hb => by
   simp only [spec_l08Free.l0]
   have next : ((ts.getD i z90).f4 && decide ((ts.getD i z90).f1 = node)) = false → spec_l08Free.l0 k node ts ts.length ((i + 1 : Nat) : Int) = some (freeI ts node) := fun h => ih (by
    intro j y hj hy
    by_cases e : j = i
    ·subst e
     rw [getD_some hi z90] at hy
     cases hy
     exact h
    ·exact hb j y (by omega) hy)
   rw [if_pos (by omega), if_pos (by omega), if_pos (by omega), rdT_nat, wrap_nat hi (by omega)]
   by_cases h : (ts.getD i z90).f4 = true
   ·rw [if_pos h]
    by_cases h2 : (ts.getD i z90).f1 = node
    ·rw [if_pos h2, freeI, idxOf_hit _ ts i _ (getD_some hi z90) (by rw [h, decide_eq_true h2]; rfl) hb]
    ·rw [if_neg h2, next (by rw [decide_eq_false h2, Bool.and_false])]
   ·rw [if_neg h, next (by rw [Bool.eq_false_iff.2 h, Bool.false_and])]) 0 k (Nat.zero_le _) (by omega)
 unfold spec_l08Free.f
 exact key (fun j y hj => absurd hj (by omega))
theorem l08Watcher_f (ns : List PNode) (ts : List PTie) (z : Int) (p : Int) (hl : ns.length ≤ 9223372036854775807) (k : Nat) (hk : 2 ^ 64 ≤ k) : spec_l08Watcher.f k ns ts z p = some (watchI ns p) := by
 have key := loop_up ns.length (fun k i => (∀ j y, j < i → ns[j]? = some y → decide (y.f2 = p) = false) → spec_l08Watcher.l0 k p ns ns.length (i : Int) = some (watchI ns p)) 0
  (fun k _ hb => by
   simp only [spec_l08Watcher.l0]
   rw [if_neg (by omega), watchI, idxOf_miss _ _ hb])
  (fun k i _ hi ih hb => by
   simp only [spec_l08Watcher.l0]
   rw [if_pos (by omega), if_pos (by omega), if_pos (by omega), rdN_nat, wrap_nat hi (by omega)]
   by_cases h : (ns.getD i z116).f2 = p
   ·rw [if_pos h, watchI, idxOf_hit _ ns i _ (getD_some hi z116) (decide_eq_true h) hb]
   ·rw [if_neg h, ih]
    intro j y hj hy
    by_cases e : j = i
    ·subst e
     rw [getD_some hi z116] at hy
     cases hy
     exact decide_eq_false h
    ·exact hb j y (by omega) hy) 0 k (Nat.zero_le _) (by omega)
 unfold spec_l08Watcher.f
 exact key (fun j y hj => absurd hj (by omega))
end Go.Proofs.Ytodfnelilhjoeaa.Pr

namespace Go.Proofs.Ytodfnelilhjoeaa.Pr
open Go.RowKit Go.Proofs.YtodfnelilhjoeaaW.PrintWords Go.Proofs.Ytodfnelilhjoeaa.Ni
def fitN (ns : List PNode) : Bool := ns.all fun n => decide (n.f0.size ≤ 9223372036854775807) && decide (n.f1.length ≤ 9223372036854775807)
theorem fitN_iff {ns : List PNode} (h : fitN ns = true) : ∀ n ∈ ns, n.f0.size ≤ 9223372036854775807 ∧ n.f1.length ≤ 9223372036854775807 := fun n hn => by
 have := List.all_eq_true.1 h n hn
 simpa using this
theorem showCell0 (w : World) (x y z : Value) (t : TypeId) : (w.alloc (.cells #[x, y, z] t)).cell? ⟨w.heap.size, 0, none⟩ = some x := by go_simp
theorem showCell1 (w : World) (x y z : Value) (t : TypeId) : (w.alloc (.cells #[x, y, z] t)).cell? ⟨w.heap.size, 1, none⟩ = some y := by go_simp
theorem showCell2 (w : World) (x y z : Value) (t : TypeId) : (w.alloc (.cells #[x, y, z] t)).cell? ⟨w.heap.size, 2, none⟩ = some z := by go_simp
theorem l01In_any (a b c : Int) (w : World) : Calls Try.prog 68 #[.int .i64 a, .int .i64 b, .int .i64 c] w fun e w' => e = .returned (.bool (inB a b c)) ∧ ∃ n, w' = w.drewN n :=
 (spec_l01In.calls a b c _ w (l01In_f a b c)).mono fun _ _ ⟨he, hd⟩ => ⟨he, hd.out⟩
theorem quietX {P : Program} {f : FuncId} {args : Array Value} {W : World} {a x : Nat} {v : Value} (h : Calls P f args (W.drewN (a + x)) fun e w' => e = .returned v ∧ ∃ m, w' = (W.drewN (a + x)).drewN m) : Calls P f args (W.drewN (a + x)) fun e w'' => e = .returned v ∧ ∃ n, w'' = W.drewN (a + n) :=
 h.mono fun _ _ ⟨he, m, hm⟩ => ⟨he, x + m, by rw [hm, World.drewN_drewN, Nat.add_assoc]⟩
theorem quiet0 {P : Program} {f : FuncId} {args : Array Value} {W : World} {x : Nat} {v : Value} (h : Calls P f args (W.drewN x) fun e w' => e = .returned v ∧ ∃ m, w' = (W.drewN x).drewN m) : Calls P f args (W.drewN x) fun e w'' => e = .returned v ∧ ∃ n, w'' = W.drewN n :=
 h.mono fun _ _ ⟨he, m, hm⟩ => ⟨he, x + m, by rw [hm, World.drewN_drewN]⟩
end Go.Proofs.Ytodfnelilhjoeaa.Pr

