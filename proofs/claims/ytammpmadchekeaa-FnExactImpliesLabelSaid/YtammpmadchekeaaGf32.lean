/- What a call of each function below returns, over this translation; the conditions stand in each theorem. Laid by a program of this session. -/
import Derived.Test.YtammpmadchekeaaG0
import Derived.Test.YtammpmadchekeaaQNice
import Derived.Test.YtammpmadchekeaaGf21
import Derived.Test.YtammpmadchekeaaGf50
import Derived.Test.YtammpmadchekeaaGf62
namespace Go.Proofs.Ytammpmadchekeaa.Pr
open Go.RowKit Go.Proofs.YtammpmadchekeaaW.PrintWords Go.Proofs.YtammpmadchekeaaW.PrintLast Go.Proofs.YtammpmadchekeaaW.PrintMore
attribute [local go_sem] max2_int min2_int max_two min_two max_three min_three max_four min_four
set_option linter.unusedVariables false
set_option linter.unusedSimpArgs false

/-! ### impl_ImpliesLabel: function 32 (by hand) -/
open Go.Proofs.Ytammpmadchekeaa.Ni
-- IMPORT Derived.Test.YtammpmadchekeaaQNice
def impl_ImpliesLabel.f (k : Nat) (l0 l1 : List Int) : Option Bool := (impl_LabelOk.f k l0).bind fun a => if a = true then (impl_LabelOk.f k l1).bind fun b => if b = true then some (l1.all fun x => l0.any fun y => decide (x = y)) else some false else some false
theorem impl_ImpliesLabel_1.clo (B : Nat) (A0 : Option Addr) (c0 : Nat) (l0 : List Int) (x : Int) (W : World) (hB : W.cell? ⟨B, 0, none⟩ = some (.slice A0 l0.length c0)) (hr0 : Kd.C (Kd.int .i64) W A0 l0.length l0) (hc0 : l0.length ≤ c0) :
    Calls Try.prog 61 #[.int .i64 x, .pointer (some ⟨B, 0, none⟩)] W fun e w' => e = .returned (.bool (!(l0.any fun y => decide (x = y)))) ∧ Below W.heap.size W w' := by
  have HC := Aside0.mk ((slices_Contains_int_int.hand A0 c0 l0 x W hr0 hc0))
  clear hr0 hc0
  go_enter Try.func61, Try.ntmps61
  go_wp2_with (go_at_call 62; refine HC.out.mono ?_; rintro e w' ⟨rfl, hb⟩)
  go_ret
  exact ⟨rfl, hb⟩
set_option maxHeartbeats 4000000 in
theorem impl_ImpliesLabel.calls (k : Nat) (A0 : Option Addr) (c0 : Nat) (l0 : List Int) (A1 : Option Addr) (c1 : Nat) (l1 : List Int) (r : Bool) (w : World) (hr0 : Kd.C (Kd.int .i64) w A0 l0.length l0) (hc0 : l0.length ≤ c0) (hr1 : Kd.C (Kd.int .i64) w A1 l1.length l1) (hc1 : l1.length ≤ c1) (h : impl_ImpliesLabel.f k l0 l1 = some r) :
    Calls Try.prog 32 #[.slice A0 l0.length c0, .slice A1 l1.length c1] w fun e w' => e = .returned (.bool r) ∧ Below w.heap.size w w' := by
  unfold impl_ImpliesLabel.f at h
  obtain ⟨a, ha, h⟩ := Option.bind_eq_some_iff.1 h
  have LA := Aside0.mk fun (W : World) (hb : Below w.heap.size w W) => (impl_LabelOk.calls k A0 c0 l0 a W (Kd.C_below hr0 hb) hc0 ha).mono fun e w' ⟨he, hd⟩ => (⟨he, by first | exact hd | exact hd.below⟩ : e = Ending.returned (.bool a) ∧ Below W.heap.size W w')
  have B0 := Aside0.mk ((Below.refl w.heap.size w).alloc (Nat.le_refl _) (.cells #[.slice A0 l0.length c0] 22))
  cases a with
  | false =>
    rw [if_neg (by decide)] at h
    obtain rfl := Option.some.inj h
    clear hr0 hr1 ha h hc0 hc1
    go_enter Try.func32, Try.ntmps32
    go_wp2_with fail
    refine (LA.out _ B0.out).mono ?_
    rintro e w1 ⟨rfl, hb1⟩
    have B1 := Aside0.mk (B0.out.trans (hb1.mono B0.out.size))
    clear hb1
    go_wp2
    go_ret
    exact ⟨rfl, B1.out⟩
  | true =>
    rw [if_pos rfl] at h
    obtain ⟨b, hb_, h⟩ := Option.bind_eq_some_iff.1 h
    have LB := Aside0.mk fun (W : World) (hb : Below w.heap.size w W) => (impl_LabelOk.calls k A1 c1 l1 b W (Kd.C_below hr1 hb) hc1 hb_).mono fun e w' ⟨he, hd⟩ => (⟨he, by first | exact hd | exact hd.below⟩ : e = Ending.returned (.bool b) ∧ Below W.heap.size W w')
    cases b with
    | false =>
      rw [if_neg (by decide)] at h
      obtain rfl := Option.some.inj h
      clear hr0 hr1 ha h hc0 hc1 hb_
      go_enter Try.func32, Try.ntmps32
      go_wp2_with fail
      refine (LA.out _ B0.out).mono ?_
      rintro e w1 ⟨rfl, hb1⟩
      have B1 := Aside0.mk (B0.out.trans (hb1.mono B0.out.size))
      clear hb1
      go_wp2_with fail
      refine (LB.out _ B1.out).mono ?_
      rintro e w2 ⟨rfl, hb2⟩
      have B2 := Aside0.mk (B1.out.trans (hb2.mono B1.out.size))
      clear hb2
      go_wp2
      go_ret
      exact ⟨rfl, B2.out⟩
    | true =>
      rw [if_pos rfl] at h
      obtain rfl := Option.some.inj h
      have HC := Aside0.mk fun (W : World) (hb : Below w.heap.size w W) (hcell : W.cell? ⟨w.heap.size, 0, none⟩ = some (.slice A0 l0.length c0)) => slices_ContainsFunc_int_int.any (fun x => !(l0.any fun y => decide (x = y))) 61 #[.pointer (some ⟨w.heap.size, 0, none⟩)] (enters_of Try.func61 (by kernel_rfl) rfl) A1 c1 l1 W (Kd.C_below hr1 hb)
        (fun W' x _ hb' => impl_ImpliesLabel_1.clo w.heap.size A0 c0 l0 x W' ((hb'.cell (World.block_lt_of_cell? W _ hcell)).trans hcell) (Kd.C_below hr0 (hb.trans (hb'.mono hb.size))) hc0)
      have HV := Aside0.mk (show (!(l1.any fun x => !(l0.any fun y => decide (x = y)))) = l1.all fun x => l0.any fun y => decide (x = y) by rw [List.not_any_eq_all_not]; simp)
      have C0 := Aside0.mk (show (w.alloc (.cells #[.slice A0 l0.length c0] 22)).cell? ⟨w.heap.size, 0, none⟩ = some (.slice A0 l0.length c0) by go_simp)
      clear hr0 hr1 ha h hc0 hc1 hb_
      go_enter Try.func32, Try.ntmps32
      go_wp2_with fail
      refine (LA.out _ B0.out).mono ?_
      rintro e w1 ⟨rfl, hb1⟩
      have B1 := Aside0.mk (B0.out.trans (hb1.mono B0.out.size))
      have C1 := Aside0.mk ((hb1.cell (World.block_lt_of_cell? _ _ C0.out)).trans C0.out)
      clear hb1
      go_wp2_with fail
      refine (LB.out _ B1.out).mono ?_
      rintro e w2 ⟨rfl, hb2⟩
      have B2 := Aside0.mk (B1.out.trans (hb2.mono B1.out.size))
      have C2 := Aside0.mk ((hb2.cell (World.block_lt_of_cell? _ _ C1.out)).trans C1.out)
      clear hb2
      go_wp2_with fail
      refine (HC.out _ B2.out C2.out).mono ?_
      rintro e w3 ⟨rfl, hb3⟩
      go_wp2
      go_ret
      exact ⟨by rw [← HV.out]; rfl, B2.out.trans (hb3.mono B2.out.size)⟩

end Go.Proofs.Ytammpmadchekeaa.Pr
