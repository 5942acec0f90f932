/- What a call of each function below returns, over this translation; the conditions stand in each theorem. Laid by a program of this session. -/
import Derived.Test.YtammpmadchekeaaG0
import Derived.Test.YtammpmadchekeaaQNice
import Derived.Test.YtammpmadchekeaaGf71
namespace Go.Proofs.Ytammpmadchekeaa.Pr
open Go.RowKit Go.Proofs.YtammpmadchekeaaW.PrintWords Go.Proofs.YtammpmadchekeaaW.PrintLast Go.Proofs.YtammpmadchekeaaW.PrintMore
attribute [local go_sem] max2_int min2_int max_two min_two max_three min_three max_four min_four
set_option linter.unusedVariables false
set_option linter.unusedSimpArgs false

/-! ### impl_NodeNamed: function 43 (by hand) -/
open Go.Proofs.Ytammpmadchekeaa.Ni
-- IMPORT Derived.Test.YtammpmadchekeaaQNice
def impl_NodeNamed.f (l0_0 : List (S42)) (l0_1 : List (S77)) (a0_2 : Int) (a1 : ByteArray) : Option Int := some (idxOf (fun n => decide (n.f0.toList = a1.toList)) l0_0)
theorem impl_NodeNamed_1.clo (B : Nat) (a : ByteArray) (W : World) (hB : W.cell? ⟨B, 0, none⟩ = some (.string a)) (x : S42) (A1_ : Option Addr) (c1_ : Nat) :
    Calls Try.prog 72 #[.agg #[.string x.f0, .slice A1_ x.f1.length c1_, .int .i64 x.f2], .pointer (some ⟨B, 0, none⟩)] W fun e w' => e = .returned (.bool (decide (x.f0.toList = a.toList))) ∧ Below W.heap.size W w' := by
  have hlt : B < W.heap.size := World.block_lt_of_cell? W _ hB
  go_enter Try.func72, Try.ntmps72
  go_wp2
  go_ret
  exact ⟨congrArg (fun b => Ending.returned (.bool b)) (show (x.f0.toList == a.toList) = decide (x.f0.toList = a.toList) by rw [Bool.eq_iff_iff]; simp), (Below.refl _ _).alloc (Nat.le_refl _) _⟩
set_option maxHeartbeats 4000000 in
theorem impl_NodeNamed.calls (A0_0 : Option Addr) (c0_0 : Nat) (l0_0 : List (S42)) (A0_1 : Option Addr) (c0_1 : Nat) (l0_1 : List (S77)) (a0_2 : Int) (a1 : ByteArray) (r : Int) (w : World) (hr0_0 : Kd.C k42 w A0_0 l0_0.length l0_0) (hc0_0 : l0_0.length ≤ c0_0) (hr0_1 : Kd.C k77 w A0_1 l0_1.length l0_1) (hc0_1 : l0_1.length ≤ c0_1) (h : impl_NodeNamed.f l0_0 l0_1 a0_2 a1 = some r) :
    Calls Try.prog 43 #[.agg #[.slice A0_0 l0_0.length c0_0, .slice A0_1 l0_1.length c0_1, .int .i64 a0_2], .string a1] w fun e w' => e = .returned (.int .i64 r) ∧ Below w.heap.size w w' := by
  obtain rfl := Option.some.inj h
  have HC := fun (W : World) (B : Nat) (hb : Below w.heap.size w W) (hcell : W.cell? ⟨B, 0, none⟩ = some (.string a1)) => impl_Node_71.any (fun n => decide (n.f0.toList = a1.toList)) 72 #[.pointer (some ⟨B, 0, none⟩)] (enters_of Try.func72 (by kernel_rfl) rfl) A0_0 c0_0 l0_0 W (Kd.C_below hr0_0 hb)
        (fun W' x A1_ c1_ _ hb' _ _ => impl_NodeNamed_1.clo B a1 W' ((hb'.cell (World.block_lt_of_cell? W _ hcell)).trans hcell) x A1_ c1_)
  have HC' := Aside0.mk HC
  clear HC hr0_0 hr0_1 h
  have HB2 := Aside0.mk (((Below.refl w.heap.size w).alloc (Nat.le_refl _) (.cells #[.slice A0_0 l0_0.length c0_0, .slice A0_1 l0_1.length c0_1, .int .i64 a0_2] 55)).alloc (by simp) (.cells #[.string a1] 9))
  have hu := Try.underlying55
  go_enter Try.func43, Try.ntmps43
  go_wp2_with fail
  refine (HC'.out _ _ HB2.out (by go_simp)).mono ?_
  rintro e w' ⟨rfl, hb⟩
  go_wp2
  go_ret
  exact ⟨rfl, HB2.out.trans (hb.mono HB2.out.size)⟩

end Go.Proofs.Ytammpmadchekeaa.Pr
