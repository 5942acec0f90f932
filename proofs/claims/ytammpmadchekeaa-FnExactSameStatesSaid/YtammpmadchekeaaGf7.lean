/- What a call of each function below returns, over this translation; the conditions stand in each theorem. Laid by a program of this session. -/
import Derived.Test.YtammpmadchekeaaG0
import Derived.Test.YtammpmadchekeaaGf26
import Derived.Test.YtammpmadchekeaaGf27
import Derived.Test.YtammpmadchekeaaGf28
import Derived.Test.YtammpmadchekeaaGf29
import Derived.Test.YtammpmadchekeaaGf30
namespace Go.Proofs.Ytammpmadchekeaa.Pr
open Go.RowKit Go.Proofs.YtammpmadchekeaaW.PrintWords Go.Proofs.YtammpmadchekeaaW.PrintLast Go.Proofs.YtammpmadchekeaaW.PrintMore
attribute [local go_sem] max2_int min2_int max_two min_two max_three min_three max_four min_four
set_option linter.unusedVariables false
set_option linter.unusedSimpArgs false

/-! ### laws_FnExactSameStates: function 7 -/
def laws_FnExactSameStates.f (k : Nat) (a0_0 : Int) (l0_1 : List Int) (l0_2 : List Int) (a1_0 : Int) (l1_1 : List Int) (l1_2 : List Int) : Option (Bool) := (laws_szState.f a0_0 l0_1 l0_2 1048576).bind fun t7003 => (if t7003 < 0 then (some true) else ((laws_szState.f a1_0 l1_1 l1_2 t7003).bind fun t7004 => (if t7004 < 0 then (some true) else ((laws_toState.f k a0_0 l0_1 l0_2).bind fun bt7005 => ((laws_toState.f k a1_0 l1_1 l1_2).bind fun bt7012 => ((spec_SameStates.f k bt7005.1 bt7005.2.1 bt7005.2.2 bt7012.1 bt7012.2.1 bt7012.2.2).bind fun t7019 => ((laws_toState.f k a0_0 l0_1 l0_2).bind fun bt7020 => ((laws_toState.f k a1_0 l1_1 l1_2).bind fun bt7028 => ((impl_SameStates.f k bt7020.1 bt7020.2.1 bt7020.2.2 bt7028.1 bt7028.2.1 bt7028.2.2).bind fun t7036 => (if (t7036 != t7019) = true then (some false) else ((laws_toState.f k a0_0 l0_1 l0_2).bind fun bt7037 => ((laws_eqState.f k bt7020.1 bt7020.2.1 bt7020.2.2 bt7037.1 bt7037.2.1 bt7037.2.2).bind fun t7044 => (if t7044 = true then ((laws_toState.f k a1_0 l1_1 l1_2).bind fun bt7045 => ((laws_eqState.f k bt7028.1 bt7028.2.1 bt7028.2.2 bt7045.1 bt7045.2.1 bt7045.2.2).bind fun t7052 => (if t7052 = true then (some true) else (some false)))) else (some false))))))))))))))
set_option maxHeartbeats 8000000 in
set_option maxRecDepth 100000 in
theorem laws_FnExactSameStates.calls (k : Nat) (a0_0 : Int) (A0_1 : Option Addr) (c0_1 : Nat) (l0_1 : List Int) (A0_2 : Option Addr) (c0_2 : Nat) (l0_2 : List Int) (a1_0 : Int) (A1_1 : Option Addr) (c1_1 : Nat) (l1_1 : List Int) (A1_2 : Option Addr) (c1_2 : Nat) (l1_2 : List Int) (w : World) (hr0_1 : Kd.C (Kd.int .i64) w A0_1 l0_1.length l0_1) (hc0_1 : l0_1.length ≤ c0_1) (hr0_2 : Kd.C (Kd.int .i64) w A0_2 l0_2.length l0_2) (hc0_2 : l0_2.length ≤ c0_2) (hr1_1 : Kd.C (Kd.int .i64) w A1_1 l1_1.length l1_1) (hc1_1 : l1_1.length ≤ c1_1) (hr1_2 : Kd.C (Kd.int .i64) w A1_2 l1_2.length l1_2) (hc1_2 : l1_2.length ≤ c1_2) (h : laws_FnExactSameStates.f k a0_0 l0_1 l0_2 a1_0 l1_1 l1_2 = some true) :
    Calls Try.prog 7 #[.agg #[.int .i64 a0_0, .slice A0_1 l0_1.length c0_1, .slice A0_2 l0_2.length c0_2], .agg #[.int .i64 a1_0, .slice A1_1 l1_1.length c1_1, .slice A1_2 l1_2.length c1_2]] w fun e w' => e = .returned (.bool true) ∧ Below w.heap.size w w' := by
  have hu31 := Try.underlying31
  have hu34 := Try.underlying34
  have HR0_1 := Aside0.mk hr0_1
  have HC0_1 := Aside0.mk hc0_1
  clear hr0_1 hc0_1
  have HR0_2 := Aside0.mk hr0_2
  have HC0_2 := Aside0.mk hc0_2
  clear hr0_2 hc0_2
  have HR1_1 := Aside0.mk hr1_1
  have HC1_1 := Aside0.mk hc1_1
  clear hr1_1 hc1_1
  have HR1_2 := Aside0.mk hr1_2
  have HC1_2 := Aside0.mk hc1_2
  clear hr1_2 hc1_2
  have HB := Aside0.mk (Below.refl w.heap.size w)
  have H : ((laws_szState.f a0_0 l0_1 l0_2 1048576).bind fun t7003 => (if t7003 < 0 then (some true) else ((laws_szState.f a1_0 l1_1 l1_2 t7003).bind fun t7004 => (if t7004 < 0 then (some true) else ((laws_toState.f k a0_0 l0_1 l0_2).bind fun bt7005 => ((laws_toState.f k a1_0 l1_1 l1_2).bind fun bt7012 => ((spec_SameStates.f k bt7005.1 bt7005.2.1 bt7005.2.2 bt7012.1 bt7012.2.1 bt7012.2.2).bind fun t7019 => ((laws_toState.f k a0_0 l0_1 l0_2).bind fun bt7020 => ((laws_toState.f k a1_0 l1_1 l1_2).bind fun bt7028 => ((impl_SameStates.f k bt7020.1 bt7020.2.1 bt7020.2.2 bt7028.1 bt7028.2.1 bt7028.2.2).bind fun t7036 => (if (t7036 != t7019) = true then (some false) else ((laws_toState.f k a0_0 l0_1 l0_2).bind fun bt7037 => ((laws_eqState.f k bt7020.1 bt7020.2.1 bt7020.2.2 bt7037.1 bt7037.2.1 bt7037.2.2).bind fun t7044 => (if t7044 = true then ((laws_toState.f k a1_0 l1_1 l1_2).bind fun bt7045 => ((laws_eqState.f k bt7028.1 bt7028.2.1 bt7028.2.2 bt7045.1 bt7045.2.1 bt7045.2.2).bind fun t7052 => (if t7052 = true then (some true) else (some false)))) else (some false))))))))))))))) = some true := h
  clear h
  replace H := Option.bind_eq_some_iff.mp H
  obtain ⟨t7003, A30, H⟩ := H
  replace H : (if t7003 < 0 then (some true) else ((laws_szState.f a1_0 l1_1 l1_2 t7003).bind fun t7004 => (if t7004 < 0 then (some true) else ((laws_toState.f k a0_0 l0_1 l0_2).bind fun bt7005 => ((laws_toState.f k a1_0 l1_1 l1_2).bind fun bt7012 => ((spec_SameStates.f k bt7005.1 bt7005.2.1 bt7005.2.2 bt7012.1 bt7012.2.1 bt7012.2.2).bind fun t7019 => ((laws_toState.f k a0_0 l0_1 l0_2).bind fun bt7020 => ((laws_toState.f k a1_0 l1_1 l1_2).bind fun bt7028 => ((impl_SameStates.f k bt7020.1 bt7020.2.1 bt7020.2.2 bt7028.1 bt7028.2.1 bt7028.2.2).bind fun t7036 => (if (t7036 != t7019) = true then (some false) else ((laws_toState.f k a0_0 l0_1 l0_2).bind fun bt7037 => ((laws_eqState.f k bt7020.1 bt7020.2.1 bt7020.2.2 bt7037.1 bt7037.2.1 bt7037.2.2).bind fun t7044 => (if t7044 = true then ((laws_toState.f k a1_0 l1_1 l1_2).bind fun bt7045 => ((laws_eqState.f k bt7028.1 bt7028.2.1 bt7028.2.2 bt7045.1 bt7045.2.1 bt7045.2.2).bind fun t7052 => (if t7052 = true then (some true) else (some false)))) else (some false)))))))))))))) = some true := H
  have A3 := Aside0.mk A30
  clear A30
  by_cases c4 : t7003 < 0
  · rw [if_pos c4] at H
    have c4b0 : decide (t7003 < 0) = true := decide_eq_true c4
    clear c4
    clear H
    go_enter Try.func7, Try.ntmps7
    go_wp2_with (first | ((with_reducible refine gate_dst (N := 2) rfl ?_); refine box_event ?hg (N := 2) ?hd (cs := #[.int .i64 a0_0, .slice A0_1 l0_1.length c0_1, .slice A0_2 l0_2.length c0_2]) (t := 31) ?hr ?_; (case hd => rfl); (case hg => rfl); (case hr => first | (go_simp; done) | (go_simp; rfl)); intro gb7001 hg w5 hbox hb; have n0_ := Aside0.mk (below_step (by repeat (first | (with_reducible first | exact HB.out | apply below_alloc | apply pw_below_drewN | apply below_drew1) | exact HB.out)) hb); have n1_ := Aside0.mk (hbox); have n2_ := Aside0.mk ((by rw [hg]; exact (below_size (by repeat (first | (with_reducible first | exact HB.out | apply below_alloc | apply pw_below_drewN | apply below_drew1) | exact HB.out))) : w.heap.size ≤ gb7001)); have n3_ := Aside0.mk ((by rw [hg]; exact (below_size (by repeat (first | (with_reducible first | exact HB.out | apply below_alloc | apply pw_below_drewN | apply below_drew1) | exact HB.out))) : w.heap.size ≤ gb7001)); clear HB; have HB := n0_; have BK7001 := n1_; have GW7001 := n2_; have GE7001 := n3_; clear n0_ n1_ n2_ n3_; clear hb hbox hg) | ((with_reducible refine gate_dst (N := 3) rfl ?_); refine box_event ?hg (N := 3) ?hd (cs := #[.int .i64 a1_0, .slice A1_1 l1_1.length c1_1, .slice A1_2 l1_2.length c1_2]) (t := 31) ?hr ?_; (case hd => rfl); (case hg => rfl); (case hr => first | (go_simp; done) | (go_simp; rfl)); intro gb7002 hg w6 hbox hb; have n0_ := Aside0.mk (blk_below (g := gb7001) (o := .cells #[.int .i64 a0_0, .slice A0_1 l0_1.length c0_1, .slice A0_2 l0_2.length c0_2] 31 (0, 0)) (by (with_reducible repeat (first | refine blk_drewN ?_ _ | refine blk_drew ?_ | refine blk_alloc ?_ _)); exact BK7001.out) hb); have n1_ := Aside0.mk (below_step (by repeat (first | (with_reducible first | exact HB.out | apply below_alloc | apply pw_below_drewN | apply below_drew1 | refine below_set ?_ GE7001.out) | exact HB.out)) hb); have n2_ := Aside0.mk (hbox); have n3_ := Aside0.mk ((by rw [hg]; exact (below_size (by repeat (first | (with_reducible first | exact HB.out | apply below_alloc | apply pw_below_drewN | apply below_drew1 | refine below_set ?_ GE7001.out) | exact HB.out))) : w.heap.size ≤ gb7002)); have n4_ := Aside0.mk ((by rw [hg]; exact (below_size (by repeat (first | (with_reducible first | exact HB.out | apply below_alloc | apply pw_below_drewN | apply below_drew1 | refine below_set ?_ GE7001.out) | exact HB.out))) : w.heap.size ≤ gb7002)); have n5_ := Aside0.mk ((by rw [hg]; exact Nat.ne_of_lt (blk_lt (g := gb7001) (o := .cells #[.int .i64 a0_0, .slice A0_1 l0_1.length c0_1, .slice A0_2 l0_2.length c0_2] 31 (0, 0)) (by (with_reducible repeat (first | refine blk_drewN ?_ _ | refine blk_drew ?_ | refine blk_alloc ?_ _)); exact BK7001.out)) : gb7001 ≠ gb7002)); have n6_ := Aside0.mk ((by rw [hg]; exact Nat.ne_of_gt (blk_lt (g := gb7001) (o := .cells #[.int .i64 a0_0, .slice A0_1 l0_1.length c0_1, .slice A0_2 l0_2.length c0_2] 31 (0, 0)) (by (with_reducible repeat (first | refine blk_drewN ?_ _ | refine blk_drew ?_ | refine blk_alloc ?_ _)); exact BK7001.out)) : gb7002 ≠ gb7001)); clear BK7001; clear HB; have BK7001 := n0_; have HB := n1_; have BK7002 := n2_; have GW7002 := n3_; have GE7002 := n4_; have NB7001_7002 := n5_; have NB7002_7001 := n6_; clear n0_ n1_ n2_ n3_ n4_ n5_ n6_; clear hb hbox hg; have hnb7 := NB7001_7002.out; have hnc7 := NB7002_7001.out; have hcz8_0 : w6.cell? ⟨gb7001, 0, none⟩ = some (.int .i64 a0_0) := (blk_cell BK7001.out 0).trans rfl; have hcz8_1 : w6.cell? ⟨gb7001, 1, none⟩ = some (.slice A0_1 l0_1.length c0_1) := (blk_cell BK7001.out 1).trans rfl; have hcz8_2 : w6.cell? ⟨gb7001, 2, none⟩ = some (.slice A0_2 l0_2.length c0_2) := (blk_cell BK7001.out 2).trans rfl; have hfz8_0 := blk_frozen BK7001.out 0; have hfz8_1 := blk_frozen BK7001.out 1; have hfz8_2 := blk_frozen BK7001.out 2) | ((with_reducible refine gate_callee (f := 26) rfl ?_); refine goesL_ (some 12) rfl rfl Try.func26 (by kernel_rfl) rfl #[.agg #[.int .i64 a0_0, .slice A0_1 l0_1.length c0_1, .slice A0_2 l0_2.length c0_2], .int .i64 1048576] rfl (by (try simp only [List.map_toArray, List.map_cons, List.map_nil]); first | done | rfl | (simp only [List.length_drop, List.length_take]; rfl)) ?_; (with_reducible refine (laws_szState.calls a0_0 _ _ l0_1 _ _ l0_2 1048576 t7003 _ ?side1 ?side2 ?side3 ?side4 A3.out).mono ?_); (case side1 => repeat (first | exact (Kd.C_below HR0_1.out HB.out) | (with_reducible refine Kd.C_alloc ?_ _) | (with_reducible refine Kd.C_drewN ?_ _) | (with_reducible refine Kd.C_drew ?_))); (case side2 => exact HC0_1.out); (case side3 => repeat (first | exact (Kd.C_below HR0_2.out HB.out) | (with_reducible refine Kd.C_alloc ?_ _) | (with_reducible refine Kd.C_drewN ?_ _) | (with_reducible refine Kd.C_drew ?_))); (case side4 => exact HC0_2.out); rintro e w9 ⟨rfl, hb⟩; refine ⟨_, rfl, ?_⟩; have n0_ := Aside0.mk (blk_below (g := gb7001) (o := .cells #[.int .i64 a0_0, .slice A0_1 l0_1.length c0_1, .slice A0_2 l0_2.length c0_2] 31 (0, 0)) (by (with_reducible repeat (first | refine blk_drewN ?_ _ | refine blk_drew ?_ | refine blk_alloc ?_ _)); exact BK7001.out) hb); have n1_ := Aside0.mk (blk_below (g := gb7002) (o := .cells #[.int .i64 a1_0, .slice A1_1 l1_1.length c1_1, .slice A1_2 l1_2.length c1_2] 31 (0, 0)) (by (with_reducible repeat (first | refine blk_drewN ?_ _ | refine blk_drew ?_ | refine blk_alloc ?_ _)); exact BK7002.out) hb); have n2_ := Aside0.mk (below_step (by repeat (first | (with_reducible first | exact HB.out | apply below_alloc | apply pw_below_drewN | apply below_drew1 | refine below_set ?_ GE7001.out | refine below_set ?_ GE7002.out) | exact HB.out)) hb); clear BK7001; clear BK7002; clear HB; have BK7001 := n0_; have BK7002 := n1_; have HB := n2_; clear n0_ n1_ n2_; (try clear hb); (try clear hb2); (try clear hk); (try clear hi)))
    go_ret
    exact ⟨by first | rfl | (simp [errW_none, errW_some] <;> rfl) | (simp [*, errW_none, errW_some] <;> rfl), by repeat (first | (with_reducible first | exact HB.out | apply below_alloc | apply pw_below_drewN | apply below_drew1 | refine below_set ?_ GE7001.out | refine below_set ?_ GE7002.out) | exact HB.out)⟩
  · rw [if_neg c4] at H
    have c4b0 : decide (t7003 < 0) = false := decide_eq_false c4
    clear c4
    replace H := Option.bind_eq_some_iff.mp H
    obtain ⟨t7004, A100, H⟩ := H
    replace H : (if t7004 < 0 then (some true) else ((laws_toState.f k a0_0 l0_1 l0_2).bind fun bt7005 => ((laws_toState.f k a1_0 l1_1 l1_2).bind fun bt7012 => ((spec_SameStates.f k bt7005.1 bt7005.2.1 bt7005.2.2 bt7012.1 bt7012.2.1 bt7012.2.2).bind fun t7019 => ((laws_toState.f k a0_0 l0_1 l0_2).bind fun bt7020 => ((laws_toState.f k a1_0 l1_1 l1_2).bind fun bt7028 => ((impl_SameStates.f k bt7020.1 bt7020.2.1 bt7020.2.2 bt7028.1 bt7028.2.1 bt7028.2.2).bind fun t7036 => (if (t7036 != t7019) = true then (some false) else ((laws_toState.f k a0_0 l0_1 l0_2).bind fun bt7037 => ((laws_eqState.f k bt7020.1 bt7020.2.1 bt7020.2.2 bt7037.1 bt7037.2.1 bt7037.2.2).bind fun t7044 => (if t7044 = true then ((laws_toState.f k a1_0 l1_1 l1_2).bind fun bt7045 => ((laws_eqState.f k bt7028.1 bt7028.2.1 bt7028.2.2 bt7045.1 bt7045.2.1 bt7045.2.2).bind fun t7052 => (if t7052 = true then (some true) else (some false)))) else (some false)))))))))))) = some true := H
    have A10 := Aside0.mk A100
    clear A100
    by_cases c11 : t7004 < 0
    · rw [if_pos c11] at H
      have c11b0 : decide (t7004 < 0) = true := decide_eq_true c11
      clear c11
      clear H
      go_enter Try.func7, Try.ntmps7
      go_wp2_with (first | ((with_reducible refine gate_dst (N := 2) rfl ?_); refine box_event ?hg (N := 2) ?hd (cs := #[.int .i64 a0_0, .slice A0_1 l0_1.length c0_1, .slice A0_2 l0_2.length c0_2]) (t := 31) ?hr ?_; (case hd => rfl); (case hg => rfl); (case hr => first | (go_simp; done) | (go_simp; rfl)); intro gb7001 hg w12 hbox hb; have n0_ := Aside0.mk (below_step (by repeat (first | (with_reducible first | exact HB.out | apply below_alloc | apply pw_below_drewN | apply below_drew1) | exact HB.out)) hb); have n1_ := Aside0.mk (hbox); have n2_ := Aside0.mk ((by rw [hg]; exact (below_size (by repeat (first | (with_reducible first | exact HB.out | apply below_alloc | apply pw_below_drewN | apply below_drew1) | exact HB.out))) : w.heap.size ≤ gb7001)); have n3_ := Aside0.mk ((by rw [hg]; exact (below_size (by repeat (first | (with_reducible first | exact HB.out | apply below_alloc | apply pw_below_drewN | apply below_drew1) | exact HB.out))) : w.heap.size ≤ gb7001)); clear HB; have HB := n0_; have BK7001 := n1_; have GW7001 := n2_; have GE7001 := n3_; clear n0_ n1_ n2_ n3_; clear hb hbox hg) | ((with_reducible refine gate_dst (N := 3) rfl ?_); refine box_event ?hg (N := 3) ?hd (cs := #[.int .i64 a1_0, .slice A1_1 l1_1.length c1_1, .slice A1_2 l1_2.length c1_2]) (t := 31) ?hr ?_; (case hd => rfl); (case hg => rfl); (case hr => first | (go_simp; done) | (go_simp; rfl)); intro gb7002 hg w13 hbox hb; have n0_ := Aside0.mk (blk_below (g := gb7001) (o := .cells #[.int .i64 a0_0, .slice A0_1 l0_1.length c0_1, .slice A0_2 l0_2.length c0_2] 31 (0, 0)) (by (with_reducible repeat (first | refine blk_drewN ?_ _ | refine blk_drew ?_ | refine blk_alloc ?_ _)); exact BK7001.out) hb); have n1_ := Aside0.mk (below_step (by repeat (first | (with_reducible first | exact HB.out | apply below_alloc | apply pw_below_drewN | apply below_drew1 | refine below_set ?_ GE7001.out) | exact HB.out)) hb); have n2_ := Aside0.mk (hbox); have n3_ := Aside0.mk ((by rw [hg]; exact (below_size (by repeat (first | (with_reducible first | exact HB.out | apply below_alloc | apply pw_below_drewN | apply below_drew1 | refine below_set ?_ GE7001.out) | exact HB.out))) : w.heap.size ≤ gb7002)); have n4_ := Aside0.mk ((by rw [hg]; exact (below_size (by repeat (first | (with_reducible first | exact HB.out | apply below_alloc | apply pw_below_drewN | apply below_drew1 | refine below_set ?_ GE7001.out) | exact HB.out))) : w.heap.size ≤ gb7002)); have n5_ := Aside0.mk ((by rw [hg]; exact Nat.ne_of_lt (blk_lt (g := gb7001) (o := .cells #[.int .i64 a0_0, .slice A0_1 l0_1.length c0_1, .slice A0_2 l0_2.length c0_2] 31 (0, 0)) (by (with_reducible repeat (first | refine blk_drewN ?_ _ | refine blk_drew ?_ | refine blk_alloc ?_ _)); exact BK7001.out)) : gb7001 ≠ gb7002)); have n6_ := Aside0.mk ((by rw [hg]; exact Nat.ne_of_gt (blk_lt (g := gb7001) (o := .cells #[.int .i64 a0_0, .slice A0_1 l0_1.length c0_1, .slice A0_2 l0_2.length c0_2] 31 (0, 0)) (by (with_reducible repeat (first | refine blk_drewN ?_ _ | refine blk_drew ?_ | refine blk_alloc ?_ _)); exact BK7001.out)) : gb7002 ≠ gb7001)); clear BK7001; clear HB; have BK7001 := n0_; have HB := n1_; have BK7002 := n2_; have GW7002 := n3_; have GE7002 := n4_; have NB7001_7002 := n5_; have NB7002_7001 := n6_; clear n0_ n1_ n2_ n3_ n4_ n5_ n6_; clear hb hbox hg; have hnb14 := NB7001_7002.out; have hnc14 := NB7002_7001.out; have hcz15_0 : w13.cell? ⟨gb7001, 0, none⟩ = some (.int .i64 a0_0) := (blk_cell BK7001.out 0).trans rfl; have hcz15_1 : w13.cell? ⟨gb7001, 1, none⟩ = some (.slice A0_1 l0_1.length c0_1) := (blk_cell BK7001.out 1).trans rfl; have hcz15_2 : w13.cell? ⟨gb7001, 2, none⟩ = some (.slice A0_2 l0_2.length c0_2) := (blk_cell BK7001.out 2).trans rfl; have hfz15_0 := blk_frozen BK7001.out 0; have hfz15_1 := blk_frozen BK7001.out 1; have hfz15_2 := blk_frozen BK7001.out 2) | ((with_reducible refine gate_callee (f := 26) rfl ?_); refine goesL_ (some 12) rfl rfl Try.func26 (by kernel_rfl) rfl #[.agg #[.int .i64 a0_0, .slice A0_1 l0_1.length c0_1, .slice A0_2 l0_2.length c0_2], .int .i64 1048576] rfl (by (try simp only [List.map_toArray, List.map_cons, List.map_nil]); first | done | rfl | (simp only [List.length_drop, List.length_take]; rfl)) ?_; (with_reducible refine (laws_szState.calls a0_0 _ _ l0_1 _ _ l0_2 1048576 t7003 _ ?side1 ?side2 ?side3 ?side4 A3.out).mono ?_); (case side1 => repeat (first | exact (Kd.C_below HR0_1.out HB.out) | (with_reducible refine Kd.C_alloc ?_ _) | (with_reducible refine Kd.C_drewN ?_ _) | (with_reducible refine Kd.C_drew ?_))); (case side2 => exact HC0_1.out); (case side3 => repeat (first | exact (Kd.C_below HR0_2.out HB.out) | (with_reducible refine Kd.C_alloc ?_ _) | (with_reducible refine Kd.C_drewN ?_ _) | (with_reducible refine Kd.C_drew ?_))); (case side4 => exact HC0_2.out); rintro e w16 ⟨rfl, hb⟩; refine ⟨_, rfl, ?_⟩; have n0_ := Aside0.mk (blk_below (g := gb7001) (o := .cells #[.int .i64 a0_0, .slice A0_1 l0_1.length c0_1, .slice A0_2 l0_2.length c0_2] 31 (0, 0)) (by (with_reducible repeat (first | refine blk_drewN ?_ _ | refine blk_drew ?_ | refine blk_alloc ?_ _)); exact BK7001.out) hb); have n1_ := Aside0.mk (blk_below (g := gb7002) (o := .cells #[.int .i64 a1_0, .slice A1_1 l1_1.length c1_1, .slice A1_2 l1_2.length c1_2] 31 (0, 0)) (by (with_reducible repeat (first | refine blk_drewN ?_ _ | refine blk_drew ?_ | refine blk_alloc ?_ _)); exact BK7002.out) hb); have n2_ := Aside0.mk (below_step (by repeat (first | (with_reducible first | exact HB.out | apply below_alloc | apply pw_below_drewN | apply below_drew1 | refine below_set ?_ GE7001.out | refine below_set ?_ GE7002.out) | exact HB.out)) hb); clear BK7001; clear BK7002; clear HB; have BK7001 := n0_; have BK7002 := n1_; have HB := n2_; clear n0_ n1_ n2_; (try clear hb); (try clear hb2); (try clear hk); (try clear hi); have hcz17_0 : w16.cell? ⟨gb7002, 0, none⟩ = some (.int .i64 a1_0) := (blk_cell BK7002.out 0).trans rfl; have hcz17_1 : w16.cell? ⟨gb7002, 1, none⟩ = some (.slice A1_1 l1_1.length c1_1) := (blk_cell BK7002.out 1).trans rfl; have hcz17_2 : w16.cell? ⟨gb7002, 2, none⟩ = some (.slice A1_2 l1_2.length c1_2) := (blk_cell BK7002.out 2).trans rfl; have hfz17_0 := blk_frozen BK7002.out 0; have hfz17_1 := blk_frozen BK7002.out 1; have hfz17_2 := blk_frozen BK7002.out 2) | ((with_reducible refine gate_callee (f := 26) rfl ?_); refine goesL_ (some 17) rfl rfl Try.func26 (by kernel_rfl) rfl #[.agg #[.int .i64 a1_0, .slice A1_1 l1_1.length c1_1, .slice A1_2 l1_2.length c1_2], .int .i64 t7003] rfl (by (try simp only [List.map_toArray, List.map_cons, List.map_nil]); first | done | rfl | (simp only [List.length_drop, List.length_take]; rfl)) ?_; (with_reducible refine (laws_szState.calls a1_0 _ _ l1_1 _ _ l1_2 t7003 t7004 _ ?side1 ?side2 ?side3 ?side4 A10.out).mono ?_); (case side1 => repeat (first | exact (Kd.C_below HR1_1.out HB.out) | (with_reducible refine Kd.C_alloc ?_ _) | (with_reducible refine Kd.C_drewN ?_ _) | (with_reducible refine Kd.C_drew ?_))); (case side2 => exact HC1_1.out); (case side3 => repeat (first | exact (Kd.C_below HR1_2.out HB.out) | (with_reducible refine Kd.C_alloc ?_ _) | (with_reducible refine Kd.C_drewN ?_ _) | (with_reducible refine Kd.C_drew ?_))); (case side4 => exact HC1_2.out); rintro e w18 ⟨rfl, hb⟩; refine ⟨_, rfl, ?_⟩; have n0_ := Aside0.mk (blk_below (g := gb7001) (o := .cells #[.int .i64 a0_0, .slice A0_1 l0_1.length c0_1, .slice A0_2 l0_2.length c0_2] 31 (0, 0)) (by (with_reducible repeat (first | refine blk_drewN ?_ _ | refine blk_drew ?_ | refine blk_alloc ?_ _)); exact BK7001.out) hb); have n1_ := Aside0.mk (blk_below (g := gb7002) (o := .cells #[.int .i64 a1_0, .slice A1_1 l1_1.length c1_1, .slice A1_2 l1_2.length c1_2] 31 (0, 0)) (by (with_reducible repeat (first | refine blk_drewN ?_ _ | refine blk_drew ?_ | refine blk_alloc ?_ _)); exact BK7002.out) hb); have n2_ := Aside0.mk (below_step (by repeat (first | (with_reducible first | exact HB.out | apply below_alloc | apply pw_below_drewN | apply below_drew1 | refine below_set ?_ GE7001.out | refine below_set ?_ GE7002.out) | exact HB.out)) hb); clear BK7001; clear BK7002; clear HB; have BK7001 := n0_; have BK7002 := n1_; have HB := n2_; clear n0_ n1_ n2_; (try clear hb); (try clear hb2); (try clear hk); (try clear hi)))
      go_ret
      exact ⟨by first | rfl | (simp [errW_none, errW_some] <;> rfl) | (simp [*, errW_none, errW_some] <;> rfl), by repeat (first | (with_reducible first | exact HB.out | apply below_alloc | apply pw_below_drewN | apply below_drew1 | refine below_set ?_ GE7001.out | refine below_set ?_ GE7002.out) | exact HB.out)⟩
    · rw [if_neg c11] at H
      have c11b0 : decide (t7004 < 0) = false := decide_eq_false c11
      clear c11
      replace H := Option.bind_eq_some_iff.mp H
      obtain ⟨⟨t7005, t7006, t7009⟩, A190, H⟩ := H
      replace H : ((laws_toState.f k a1_0 l1_1 l1_2).bind fun bt7012 => ((spec_SameStates.f k t7005 t7006 t7009 bt7012.1 bt7012.2.1 bt7012.2.2).bind fun t7019 => ((laws_toState.f k a0_0 l0_1 l0_2).bind fun bt7020 => ((laws_toState.f k a1_0 l1_1 l1_2).bind fun bt7028 => ((impl_SameStates.f k bt7020.1 bt7020.2.1 bt7020.2.2 bt7028.1 bt7028.2.1 bt7028.2.2).bind fun t7036 => (if (t7036 != t7019) = true then (some false) else ((laws_toState.f k a0_0 l0_1 l0_2).bind fun bt7037 => ((laws_eqState.f k bt7020.1 bt7020.2.1 bt7020.2.2 bt7037.1 bt7037.2.1 bt7037.2.2).bind fun t7044 => (if t7044 = true then ((laws_toState.f k a1_0 l1_1 l1_2).bind fun bt7045 => ((laws_eqState.f k bt7028.1 bt7028.2.1 bt7028.2.2 bt7045.1 bt7045.2.1 bt7045.2.2).bind fun t7052 => (if t7052 = true then (some true) else (some false)))) else (some false)))))))))) = some true := H
      have A19 := Aside0.mk A190
      clear A190
      replace H := Option.bind_eq_some_iff.mp H
      obtain ⟨⟨t7012, t7013, t7016⟩, A200, H⟩ := H
      replace H : ((spec_SameStates.f k t7005 t7006 t7009 t7012 t7013 t7016).bind fun t7019 => ((laws_toState.f k a0_0 l0_1 l0_2).bind fun bt7020 => ((laws_toState.f k a1_0 l1_1 l1_2).bind fun bt7028 => ((impl_SameStates.f k bt7020.1 bt7020.2.1 bt7020.2.2 bt7028.1 bt7028.2.1 bt7028.2.2).bind fun t7036 => (if (t7036 != t7019) = true then (some false) else ((laws_toState.f k a0_0 l0_1 l0_2).bind fun bt7037 => ((laws_eqState.f k bt7020.1 bt7020.2.1 bt7020.2.2 bt7037.1 bt7037.2.1 bt7037.2.2).bind fun t7044 => (if t7044 = true then ((laws_toState.f k a1_0 l1_1 l1_2).bind fun bt7045 => ((laws_eqState.f k bt7028.1 bt7028.2.1 bt7028.2.2 bt7045.1 bt7045.2.1 bt7045.2.2).bind fun t7052 => (if t7052 = true then (some true) else (some false)))) else (some false))))))))) = some true := H
      have A20 := Aside0.mk A200
      clear A200
      replace H := Option.bind_eq_some_iff.mp H
      obtain ⟨t7019, A210, H⟩ := H
      replace H : ((laws_toState.f k a0_0 l0_1 l0_2).bind fun bt7020 => ((laws_toState.f k a1_0 l1_1 l1_2).bind fun bt7028 => ((impl_SameStates.f k bt7020.1 bt7020.2.1 bt7020.2.2 bt7028.1 bt7028.2.1 bt7028.2.2).bind fun t7036 => (if (t7036 != t7019) = true then (some false) else ((laws_toState.f k a0_0 l0_1 l0_2).bind fun bt7037 => ((laws_eqState.f k bt7020.1 bt7020.2.1 bt7020.2.2 bt7037.1 bt7037.2.1 bt7037.2.2).bind fun t7044 => (if t7044 = true then ((laws_toState.f k a1_0 l1_1 l1_2).bind fun bt7045 => ((laws_eqState.f k bt7028.1 bt7028.2.1 bt7028.2.2 bt7045.1 bt7045.2.1 bt7045.2.2).bind fun t7052 => (if t7052 = true then (some true) else (some false)))) else (some false)))))))) = some true := H
      have A21 := Aside0.mk A210
      clear A210
      replace H := Option.bind_eq_some_iff.mp H
      obtain ⟨⟨t7020, t7021, t7024⟩, A220, H⟩ := H
      replace H : ((laws_toState.f k a1_0 l1_1 l1_2).bind fun bt7028 => ((impl_SameStates.f k t7020 t7021 t7024 bt7028.1 bt7028.2.1 bt7028.2.2).bind fun t7036 => (if (t7036 != t7019) = true then (some false) else ((laws_toState.f k a0_0 l0_1 l0_2).bind fun bt7037 => ((laws_eqState.f k t7020 t7021 t7024 bt7037.1 bt7037.2.1 bt7037.2.2).bind fun t7044 => (if t7044 = true then ((laws_toState.f k a1_0 l1_1 l1_2).bind fun bt7045 => ((laws_eqState.f k bt7028.1 bt7028.2.1 bt7028.2.2 bt7045.1 bt7045.2.1 bt7045.2.2).bind fun t7052 => (if t7052 = true then (some true) else (some false)))) else (some false))))))) = some true := H
      have A22 := Aside0.mk A220
      clear A220
      replace H := Option.bind_eq_some_iff.mp H
      obtain ⟨⟨t7028, t7029, t7032⟩, A230, H⟩ := H
      replace H : ((impl_SameStates.f k t7020 t7021 t7024 t7028 t7029 t7032).bind fun t7036 => (if (t7036 != t7019) = true then (some false) else ((laws_toState.f k a0_0 l0_1 l0_2).bind fun bt7037 => ((laws_eqState.f k t7020 t7021 t7024 bt7037.1 bt7037.2.1 bt7037.2.2).bind fun t7044 => (if t7044 = true then ((laws_toState.f k a1_0 l1_1 l1_2).bind fun bt7045 => ((laws_eqState.f k t7028 t7029 t7032 bt7045.1 bt7045.2.1 bt7045.2.2).bind fun t7052 => (if t7052 = true then (some true) else (some false)))) else (some false)))))) = some true := H
      have A23 := Aside0.mk A230
      clear A230
      replace H := Option.bind_eq_some_iff.mp H
      obtain ⟨t7036, A240, H⟩ := H
      replace H : (if (t7036 != t7019) = true then (some false) else ((laws_toState.f k a0_0 l0_1 l0_2).bind fun bt7037 => ((laws_eqState.f k t7020 t7021 t7024 bt7037.1 bt7037.2.1 bt7037.2.2).bind fun t7044 => (if t7044 = true then ((laws_toState.f k a1_0 l1_1 l1_2).bind fun bt7045 => ((laws_eqState.f k t7028 t7029 t7032 bt7045.1 bt7045.2.1 bt7045.2.2).bind fun t7052 => (if t7052 = true then (some true) else (some false)))) else (some false))))) = some true := H
      have A24 := Aside0.mk A240
      clear A240
      by_cases c25 : (t7036 != t7019) = true
      · rw [if_pos c25] at H
        have c25b0 : (t7036 != t7019) = true := c25
        (try (have c25b1 : decide (t7036 = t7019) = false := by simpa using c25))
        (try (have c25b2 : (t7036 == t7019) = false := by simpa using c25))
        (try (have c25b3 : ¬ (t7036 = t7019) := by simpa using c25))
        clear c25
        exact absurd H (by simp)
      · rw [if_neg c25] at H
        have c25b0 : (t7036 != t7019) = false := by simpa using c25
        (try (have c25b1 : decide (t7036 = t7019) = true := by simpa using c25))
        (try (have c25b2 : (t7036 == t7019) = true := by simpa using c25))
        clear c25
        replace H := Option.bind_eq_some_iff.mp H
        obtain ⟨⟨t7037, t7038, t7041⟩, A260, H⟩ := H
        replace H : ((laws_eqState.f k t7020 t7021 t7024 t7037 t7038 t7041).bind fun t7044 => (if t7044 = true then ((laws_toState.f k a1_0 l1_1 l1_2).bind fun bt7045 => ((laws_eqState.f k t7028 t7029 t7032 bt7045.1 bt7045.2.1 bt7045.2.2).bind fun t7052 => (if t7052 = true then (some true) else (some false)))) else (some false))) = some true := H
        have A26 := Aside0.mk A260
        clear A260
        replace H := Option.bind_eq_some_iff.mp H
        obtain ⟨t7044, A270, H⟩ := H
        replace H : (if t7044 = true then ((laws_toState.f k a1_0 l1_1 l1_2).bind fun bt7045 => ((laws_eqState.f k t7028 t7029 t7032 bt7045.1 bt7045.2.1 bt7045.2.2).bind fun t7052 => (if t7052 = true then (some true) else (some false)))) else (some false)) = some true := H
        have A27 := Aside0.mk A270
        clear A270
        by_cases c28 : t7044 = true
        · subst c28
          have H1 : ((laws_toState.f k a1_0 l1_1 l1_2).bind fun bt7045 => ((laws_eqState.f k t7028 t7029 t7032 bt7045.1 bt7045.2.1 bt7045.2.2).bind fun t7052 => (if t7052 = true then (some true) else (some false)))) = some true := by rw [if_pos rfl] at H; first | done | exact H
          clear H
          have H := H1
          clear H1
          replace H := Option.bind_eq_some_iff.mp H
          obtain ⟨⟨t7045, t7046, t7049⟩, A290, H⟩ := H
          replace H : ((laws_eqState.f k t7028 t7029 t7032 t7045 t7046 t7049).bind fun t7052 => (if t7052 = true then (some true) else (some false))) = some true := H
          have A29 := Aside0.mk A290
          clear A290
          replace H := Option.bind_eq_some_iff.mp H
          obtain ⟨t7052, A300, H⟩ := H
          replace H : (if t7052 = true then (some true) else (some false)) = some true := H
          have A30 := Aside0.mk A300
          clear A300
          by_cases c31 : t7052 = true
          · subst c31
            have H1 : (some true) = some true := by rw [if_pos rfl] at H; first | done | exact H
            clear H
            have H := H1
            clear H1
            clear H
            go_enter Try.func7, Try.ntmps7
            try go_wp2_with (first | ((with_reducible refine gate_dst (N := 2) rfl ?_); refine box_event ?hg (N := 2) ?hd (cs := #[.int .i64 a0_0, .slice A0_1 l0_1.length c0_1, .slice A0_2 l0_2.length c0_2]) (t := 31) ?hr ?_; (case hd => rfl); (case hg => rfl); (case hr => first | (go_simp; done) | (go_simp; rfl)); intro gb7001 hg w32 hbox hb; have n0_ := Aside0.mk (below_step (by repeat (first | (with_reducible first | exact HB.out | apply below_alloc | apply pw_below_drewN | apply below_drew1) | exact HB.out)) hb); have n1_ := Aside0.mk (hbox); have n2_ := Aside0.mk ((by rw [hg]; exact (below_size (by repeat (first | (with_reducible first | exact HB.out | apply below_alloc | apply pw_below_drewN | apply below_drew1) | exact HB.out))) : w.heap.size ≤ gb7001)); have n3_ := Aside0.mk ((by rw [hg]; exact (below_size (by repeat (first | (with_reducible first | exact HB.out | apply below_alloc | apply pw_below_drewN | apply below_drew1) | exact HB.out))) : w.heap.size ≤ gb7001)); clear HB; have HB := n0_; have BK7001 := n1_; have GW7001 := n2_; have GE7001 := n3_; clear n0_ n1_ n2_ n3_; clear hb hbox hg) | ((with_reducible refine gate_dst (N := 3) rfl ?_); refine box_event ?hg (N := 3) ?hd (cs := #[.int .i64 a1_0, .slice A1_1 l1_1.length c1_1, .slice A1_2 l1_2.length c1_2]) (t := 31) ?hr ?_; (case hd => rfl); (case hg => rfl); (case hr => first | (go_simp; done) | (go_simp; rfl)); intro gb7002 hg w33 hbox hb; have n0_ := Aside0.mk (blk_below (g := gb7001) (o := .cells #[.int .i64 a0_0, .slice A0_1 l0_1.length c0_1, .slice A0_2 l0_2.length c0_2] 31 (0, 0)) (by (with_reducible repeat (first | refine blk_drewN ?_ _ | refine blk_drew ?_ | refine blk_alloc ?_ _)); exact BK7001.out) hb); have n1_ := Aside0.mk (below_step (by repeat (first | (with_reducible first | exact HB.out | apply below_alloc | apply pw_below_drewN | apply below_drew1 | refine below_set ?_ GE7001.out) | exact HB.out)) hb); have n2_ := Aside0.mk (hbox); have n3_ := Aside0.mk ((by rw [hg]; exact (below_size (by repeat (first | (with_reducible first | exact HB.out | apply below_alloc | apply pw_below_drewN | apply below_drew1 | refine below_set ?_ GE7001.out) | exact HB.out))) : w.heap.size ≤ gb7002)); have n4_ := Aside0.mk ((by rw [hg]; exact (below_size (by repeat (first | (with_reducible first | exact HB.out | apply below_alloc | apply pw_below_drewN | apply below_drew1 | refine below_set ?_ GE7001.out) | exact HB.out))) : w.heap.size ≤ gb7002)); have n5_ := Aside0.mk ((by rw [hg]; exact Nat.ne_of_lt (blk_lt (g := gb7001) (o := .cells #[.int .i64 a0_0, .slice A0_1 l0_1.length c0_1, .slice A0_2 l0_2.length c0_2] 31 (0, 0)) (by (with_reducible repeat (first | refine blk_drewN ?_ _ | refine blk_drew ?_ | refine blk_alloc ?_ _)); exact BK7001.out)) : gb7001 ≠ gb7002)); have n6_ := Aside0.mk ((by rw [hg]; exact Nat.ne_of_gt (blk_lt (g := gb7001) (o := .cells #[.int .i64 a0_0, .slice A0_1 l0_1.length c0_1, .slice A0_2 l0_2.length c0_2] 31 (0, 0)) (by (with_reducible repeat (first | refine blk_drewN ?_ _ | refine blk_drew ?_ | refine blk_alloc ?_ _)); exact BK7001.out)) : gb7002 ≠ gb7001)); clear BK7001; clear HB; have BK7001 := n0_; have HB := n1_; have BK7002 := n2_; have GW7002 := n3_; have GE7002 := n4_; have NB7001_7002 := n5_; have NB7002_7001 := n6_; clear n0_ n1_ n2_ n3_ n4_ n5_ n6_; clear hb hbox hg; have hnb34 := NB7001_7002.out; have hnc34 := NB7002_7001.out; have hcz35_0 : w33.cell? ⟨gb7001, 0, none⟩ = some (.int .i64 a0_0) := (blk_cell BK7001.out 0).trans rfl; have hcz35_1 : w33.cell? ⟨gb7001, 1, none⟩ = some (.slice A0_1 l0_1.length c0_1) := (blk_cell BK7001.out 1).trans rfl; have hcz35_2 : w33.cell? ⟨gb7001, 2, none⟩ = some (.slice A0_2 l0_2.length c0_2) := (blk_cell BK7001.out 2).trans rfl; have hfz35_0 := blk_frozen BK7001.out 0; have hfz35_1 := blk_frozen BK7001.out 1; have hfz35_2 := blk_frozen BK7001.out 2) | ((with_reducible refine gate_callee (f := 26) rfl ?_); refine goesL_ (some 12) rfl rfl Try.func26 (by kernel_rfl) rfl #[.agg #[.int .i64 a0_0, .slice A0_1 l0_1.length c0_1, .slice A0_2 l0_2.length c0_2], .int .i64 1048576] rfl (by (try simp only [List.map_toArray, List.map_cons, List.map_nil]); first | done | rfl | (simp only [List.length_drop, List.length_take]; rfl)) ?_; (with_reducible refine (laws_szState.calls a0_0 _ _ l0_1 _ _ l0_2 1048576 t7003 _ ?side1 ?side2 ?side3 ?side4 A3.out).mono ?_); (case side1 => repeat (first | exact (Kd.C_below HR0_1.out HB.out) | (with_reducible refine Kd.C_alloc ?_ _) | (with_reducible refine Kd.C_drewN ?_ _) | (with_reducible refine Kd.C_drew ?_))); (case side2 => exact HC0_1.out); (case side3 => repeat (first | exact (Kd.C_below HR0_2.out HB.out) | (with_reducible refine Kd.C_alloc ?_ _) | (with_reducible refine Kd.C_drewN ?_ _) | (with_reducible refine Kd.C_drew ?_))); (case side4 => exact HC0_2.out); rintro e w36 ⟨rfl, hb⟩; refine ⟨_, rfl, ?_⟩; have n0_ := Aside0.mk (blk_below (g := gb7001) (o := .cells #[.int .i64 a0_0, .slice A0_1 l0_1.length c0_1, .slice A0_2 l0_2.length c0_2] 31 (0, 0)) (by (with_reducible repeat (first | refine blk_drewN ?_ _ | refine blk_drew ?_ | refine blk_alloc ?_ _)); exact BK7001.out) hb); have n1_ := Aside0.mk (blk_below (g := gb7002) (o := .cells #[.int .i64 a1_0, .slice A1_1 l1_1.length c1_1, .slice A1_2 l1_2.length c1_2] 31 (0, 0)) (by (with_reducible repeat (first | refine blk_drewN ?_ _ | refine blk_drew ?_ | refine blk_alloc ?_ _)); exact BK7002.out) hb); have n2_ := Aside0.mk (below_step (by repeat (first | (with_reducible first | exact HB.out | apply below_alloc | apply pw_below_drewN | apply below_drew1 | refine below_set ?_ GE7001.out | refine below_set ?_ GE7002.out) | exact HB.out)) hb); clear BK7001; clear BK7002; clear HB; have BK7001 := n0_; have BK7002 := n1_; have HB := n2_; clear n0_ n1_ n2_; (try clear hb); (try clear hb2); (try clear hk); (try clear hi); have hcz37_0 : w36.cell? ⟨gb7002, 0, none⟩ = some (.int .i64 a1_0) := (blk_cell BK7002.out 0).trans rfl; have hcz37_1 : w36.cell? ⟨gb7002, 1, none⟩ = some (.slice A1_1 l1_1.length c1_1) := (blk_cell BK7002.out 1).trans rfl; have hcz37_2 : w36.cell? ⟨gb7002, 2, none⟩ = some (.slice A1_2 l1_2.length c1_2) := (blk_cell BK7002.out 2).trans rfl; have hfz37_0 := blk_frozen BK7002.out 0; have hfz37_1 := blk_frozen BK7002.out 1; have hfz37_2 := blk_frozen BK7002.out 2) | ((with_reducible refine gate_callee (f := 26) rfl ?_); refine goesL_ (some 17) rfl rfl Try.func26 (by kernel_rfl) rfl #[.agg #[.int .i64 a1_0, .slice A1_1 l1_1.length c1_1, .slice A1_2 l1_2.length c1_2], .int .i64 t7003] rfl (by (try simp only [List.map_toArray, List.map_cons, List.map_nil]); first | done | rfl | (simp only [List.length_drop, List.length_take]; rfl)) ?_; (with_reducible refine (laws_szState.calls a1_0 _ _ l1_1 _ _ l1_2 t7003 t7004 _ ?side1 ?side2 ?side3 ?side4 A10.out).mono ?_); (case side1 => repeat (first | exact (Kd.C_below HR1_1.out HB.out) | (with_reducible refine Kd.C_alloc ?_ _) | (with_reducible refine Kd.C_drewN ?_ _) | (with_reducible refine Kd.C_drew ?_))); (case side2 => exact HC1_1.out); (case side3 => repeat (first | exact (Kd.C_below HR1_2.out HB.out) | (with_reducible refine Kd.C_alloc ?_ _) | (with_reducible refine Kd.C_drewN ?_ _) | (with_reducible refine Kd.C_drew ?_))); (case side4 => exact HC1_2.out); rintro e w38 ⟨rfl, hb⟩; refine ⟨_, rfl, ?_⟩; have n0_ := Aside0.mk (blk_below (g := gb7001) (o := .cells #[.int .i64 a0_0, .slice A0_1 l0_1.length c0_1, .slice A0_2 l0_2.length c0_2] 31 (0, 0)) (by (with_reducible repeat (first | refine blk_drewN ?_ _ | refine blk_drew ?_ | refine blk_alloc ?_ _)); exact BK7001.out) hb); have n1_ := Aside0.mk (blk_below (g := gb7002) (o := .cells #[.int .i64 a1_0, .slice A1_1 l1_1.length c1_1, .slice A1_2 l1_2.length c1_2] 31 (0, 0)) (by (with_reducible repeat (first | refine blk_drewN ?_ _ | refine blk_drew ?_ | refine blk_alloc ?_ _)); exact BK7002.out) hb); have n2_ := Aside0.mk (below_step (by repeat (first | (with_reducible first | exact HB.out | apply below_alloc | apply pw_below_drewN | apply below_drew1 | refine below_set ?_ GE7001.out | refine below_set ?_ GE7002.out) | exact HB.out)) hb); clear BK7001; clear BK7002; clear HB; have BK7001 := n0_; have BK7002 := n1_; have HB := n2_; clear n0_ n1_ n2_; (try clear hb); (try clear hb2); (try clear hk); (try clear hi)))
            have n0_ := Aside0.mk (blk_drew BK7001.out)
            have n1_ := Aside0.mk (blk_drew BK7002.out)
            have n2_ := Aside0.mk (below_drew1 HB.out)
            clear BK7001
            clear BK7002
            clear HB
            have BK7001 := n0_
            have BK7002 := n1_
            have HB := n2_
            clear n0_ n1_ n2_
            refine start_ (n := 6) (S := fun w' => w'.cell? ⟨gb7001, 0, none⟩ = some (.int .i64 a0_0) ∧ w'.cell? ⟨gb7001, 1, none⟩ = some (.slice A0_1 l0_1.length c0_1) ∧ w'.cell? ⟨gb7001, 2, none⟩ = some (.slice A0_2 l0_2.length c0_2) ∧ w'.cell? ⟨gb7002, 0, none⟩ = some (.int .i64 a1_0) ∧ w'.cell? ⟨gb7002, 1, none⟩ = some (.slice A1_1 l1_1.length c1_1) ∧ w'.cell? ⟨gb7002, 2, none⟩ = some (.slice A1_2 l1_2.length c1_2)) (ds := []) #[false, false, false, false, false, false] (by kernel_rfl) rfl rfl ⟨(blk_cell BK7001.out 0).trans rfl, (blk_cell BK7001.out 1).trans rfl, (blk_cell BK7001.out 2).trans rfl, (blk_cell BK7002.out 0).trans rfl, (blk_cell BK7002.out 1).trans rfl, (blk_cell BK7002.out 2).trans rfl⟩ (fun hHeld => ?_)
            generalize w38.drew = w39 at BK7001 BK7002 HB hHeld ⊢
            refine take_ (i := 0) (N := some 20) (v := ?_) (a' := ?_) #[true, false, false, false, false, false] rfl rfl (by kernel_rfl) (fun _ _ _ h => h) (Or.inl ⟨by rfl, ?_⟩) hHeld ?_ ?_
            rotate_left
            · rintro w' ⟨s0, s1, s2, s3, s4, s5⟩
              go_simp
              with_reducible rfl
            rotate_left
            · simp only [Act.put, List.setIfInBounds_toArray, List.set_cons_zero, List.set_cons_succ, i64_w, i32_w]
              rfl
            refine take_ (i := 2) (N := some 22) (v := ?_) (a' := ?_) #[true, false, true, false, false, false] rfl rfl (by kernel_rfl) (fun _ _ _ h => h) (Or.inl ⟨by rfl, ?_⟩) hHeld ?_ ?_
            rotate_left
            · rintro w' ⟨s0, s1, s2, s3, s4, s5⟩
              go_simp
              with_reducible rfl
            rotate_left
            · simp only [Act.put, List.setIfInBounds_toArray, List.set_cons_zero, List.set_cons_succ, i64_w, i32_w]
              rfl
            refine one_ (i := 1) (N := some 21) #[true, true, true, false, false, false] rfl rfl (by kernel_rfl) (by decide) (fun K hK => ?_)
            refine goes_ Try.func28 (by kernel_rfl) rfl #[.agg #[.int .i64 a0_0, .slice A0_1 l0_1.length c0_1, .slice A0_2 l0_2.length c0_2]] (by rfl) rfl rfl (by (try simp only [List.map_toArray, List.map_cons, List.map_nil]); first | done | rfl | (simp only [List.length_drop, List.length_take]; rfl)) ?_
            with_reducible refine (laws_toState.calls k a0_0 _ _ l0_1 _ _ l0_2 t7005 t7006 t7009 _ ?side1 ?side2 ?side3 ?side4 A19.out).mono ?_
            (case side1 => repeat (first | exact (Kd.C_below HR0_1.out HB.out) | (with_reducible refine Kd.C_alloc ?_ _) | (with_reducible refine Kd.C_drewN ?_ _) | (with_reducible refine Kd.C_drew ?_)))
            (case side2 => exact HC0_1.out)
            (case side3 => repeat (first | exact (Kd.C_below HR0_2.out HB.out) | (with_reducible refine Kd.C_alloc ?_ _) | (with_reducible refine Kd.C_drewN ?_ _) | (with_reducible refine Kd.C_drew ?_)))
            (case side4 => exact HC0_2.out)
            rintro e w40 ⟨v7007, v7010, rfl, ho0, ho1, hb⟩
            refine ⟨_, rfl, ?_⟩
            have n0_ := Aside0.mk (Kd.R_lower ho0 (below_size (by repeat (first | (with_reducible first | exact HB.out | apply below_alloc | apply pw_below_drewN | apply below_drew1 | refine below_set ?_ GE7001.out | refine below_set ?_ GE7002.out) | exact HB.out))))
            have n1_ := Aside0.mk (Kd.R_lower ho1 (below_size (by repeat (first | (with_reducible first | exact HB.out | apply below_alloc | apply pw_below_drewN | apply below_drew1 | refine below_set ?_ GE7001.out | refine below_set ?_ GE7002.out) | exact HB.out))))
            have n2_ := Aside0.mk (blk_below (g := gb7001) (o := .cells #[.int .i64 a0_0, .slice A0_1 l0_1.length c0_1, .slice A0_2 l0_2.length c0_2] 31 (0, 0)) (by (with_reducible repeat (first | refine blk_drewN ?_ _ | refine blk_drew ?_ | refine blk_alloc ?_ _)); exact BK7001.out) hb)
            have n3_ := Aside0.mk (blk_below (g := gb7002) (o := .cells #[.int .i64 a1_0, .slice A1_1 l1_1.length c1_1, .slice A1_2 l1_2.length c1_2] 31 (0, 0)) (by (with_reducible repeat (first | refine blk_drewN ?_ _ | refine blk_drew ?_ | refine blk_alloc ?_ _)); exact BK7002.out) hb)
            have n4_ := Aside0.mk (below_step (by repeat (first | (with_reducible first | exact HB.out | apply below_alloc | apply pw_below_drewN | apply below_drew1 | refine below_set ?_ GE7001.out | refine below_set ?_ GE7002.out) | exact HB.out)) hb)
            clear BK7001
            clear BK7002
            clear HB
            have HO7008 := n0_
            have HO7011 := n1_
            have BK7001 := n2_
            have BK7002 := n3_
            have HB := n4_
            clear n0_ n1_ n2_ n3_ n4_
            (try clear hb)
            (try clear hb2)
            (try clear hk)
            (try clear hi)
            (try clear ho0)
            (try clear ho1)
            refine hK.out _ _ ⟨(blk_cell BK7001.out 0).trans rfl, (blk_cell BK7001.out 1).trans rfl, (blk_cell BK7001.out 2).trans rfl, (blk_cell BK7002.out 0).trans rfl, (blk_cell BK7002.out 1).trans rfl, (blk_cell BK7002.out 2).trans rfl⟩ (fun hHeld => ?_)
            clear hK K
            refine norm_ (a' := ?_) ?_ ?_
            rotate_left
            · show Act.put _ (some 21) _ = _
              simp only [Act.put, List.setIfInBounds_toArray, List.set_cons_zero, List.set_cons_succ, i64_w, i32_w]
              rfl
            refine one_ (i := 3) (N := some 23) #[true, true, true, true, false, false] rfl rfl (by kernel_rfl) (by decide) (fun K hK => ?_)
            refine goes_ Try.func28 (by kernel_rfl) rfl #[.agg #[.int .i64 a1_0, .slice A1_1 l1_1.length c1_1, .slice A1_2 l1_2.length c1_2]] (by rfl) rfl rfl (by (try simp only [List.map_toArray, List.map_cons, List.map_nil]); first | done | rfl | (simp only [List.length_drop, List.length_take]; rfl)) ?_
            with_reducible refine (laws_toState.calls k a1_0 _ _ l1_1 _ _ l1_2 t7012 t7013 t7016 _ ?side1 ?side2 ?side3 ?side4 A20.out).mono ?_
            (case side1 => repeat (first | exact (Kd.C_below HR1_1.out HB.out) | (with_reducible refine Kd.C_alloc ?_ _) | (with_reducible refine Kd.C_drewN ?_ _) | (with_reducible refine Kd.C_drew ?_)))
            (case side2 => exact HC1_1.out)
            (case side3 => repeat (first | exact (Kd.C_below HR1_2.out HB.out) | (with_reducible refine Kd.C_alloc ?_ _) | (with_reducible refine Kd.C_drewN ?_ _) | (with_reducible refine Kd.C_drew ?_)))
            (case side4 => exact HC1_2.out)
            rintro e w41 ⟨v7014, v7017, rfl, ho0, ho1, hb⟩
            refine ⟨_, rfl, ?_⟩
            have n0_ := Aside0.mk (Kd.R_mono (Kd.R_told (Kd.R_told (Kd.R_old (by (with_reducible repeat (first | apply Kd.R_alloc | apply Kd.R_drewN | apply Kd.R_drew)); exact HO7008.out) hb) (Kd.R_base ho0)) (Kd.R_base ho1)) (fun _ h_ => h_.1))
            have n1_ := Aside0.mk (Kd.R_mono (Kd.R_told (Kd.R_told (Kd.R_old (by (with_reducible repeat (first | apply Kd.R_alloc | apply Kd.R_drewN | apply Kd.R_drew)); exact HO7011.out) hb) (Kd.R_base ho0)) (Kd.R_base ho1)) (fun _ h_ => h_.1))
            have n2_ := Aside0.mk (Kd.R_lower (Kd.R_new' (Kd.R_new' ho0 (Kd.R_lt (by (with_reducible repeat (first | apply Kd.R_alloc | apply Kd.R_drewN | apply Kd.R_drew)); exact HO7008.out))) (Kd.R_lt (by (with_reducible repeat (first | apply Kd.R_alloc | apply Kd.R_drewN | apply Kd.R_drew)); exact HO7011.out))) (below_size (by repeat (first | (with_reducible first | exact HB.out | apply below_alloc | apply pw_below_drewN | apply below_drew1 | refine below_set ?_ GE7001.out | refine below_set ?_ GE7002.out) | exact HB.out))))
            have n3_ := Aside0.mk (Kd.R_lower (Kd.R_new' (Kd.R_new' ho1 (Kd.R_lt (by (with_reducible repeat (first | apply Kd.R_alloc | apply Kd.R_drewN | apply Kd.R_drew)); exact HO7008.out))) (Kd.R_lt (by (with_reducible repeat (first | apply Kd.R_alloc | apply Kd.R_drewN | apply Kd.R_drew)); exact HO7011.out))) (below_size (by repeat (first | (with_reducible first | exact HB.out | apply below_alloc | apply pw_below_drewN | apply below_drew1 | refine below_set ?_ GE7001.out | refine below_set ?_ GE7002.out) | exact HB.out))))
            have n4_ := Aside0.mk (blk_below (g := gb7001) (o := .cells #[.int .i64 a0_0, .slice A0_1 l0_1.length c0_1, .slice A0_2 l0_2.length c0_2] 31 (0, 0)) (by (with_reducible repeat (first | refine blk_drewN ?_ _ | refine blk_drew ?_ | refine blk_alloc ?_ _)); exact BK7001.out) hb)
            have n5_ := Aside0.mk (blk_below (g := gb7002) (o := .cells #[.int .i64 a1_0, .slice A1_1 l1_1.length c1_1, .slice A1_2 l1_2.length c1_2] 31 (0, 0)) (by (with_reducible repeat (first | refine blk_drewN ?_ _ | refine blk_drew ?_ | refine blk_alloc ?_ _)); exact BK7002.out) hb)
            have n6_ := Aside0.mk (below_step (by repeat (first | (with_reducible first | exact HB.out | apply below_alloc | apply pw_below_drewN | apply below_drew1 | refine below_set ?_ GE7001.out | refine below_set ?_ GE7002.out) | exact HB.out)) hb)
            clear HO7008
            clear HO7011
            clear BK7001
            clear BK7002
            clear HB
            have HO7008 := n0_
            have HO7011 := n1_
            have HO7015 := n2_
            have HO7018 := n3_
            have BK7001 := n4_
            have BK7002 := n5_
            have HB := n6_
            clear n0_ n1_ n2_ n3_ n4_ n5_ n6_
            (try clear hb)
            (try clear hb2)
            (try clear hk)
            (try clear hi)
            (try clear ho0)
            (try clear ho1)
            obtain ⟨Ao42, co42, eo42⟩ := Kd.R_slice HO7008.out
            (first | subst eo42 | (injection eo42 with f1_ f2_ f3_; have f4_ := f1_.symm; have f5_ := f3_.symm; clear f1_ f2_ f3_; subst f4_; subst f5_))
            obtain ⟨Ao43, co43, eo43⟩ := Kd.R_slice HO7011.out
            (first | subst eo43 | (injection eo43 with f1_ f2_ f3_; have f4_ := f1_.symm; have f5_ := f3_.symm; clear f1_ f2_ f3_; subst f4_; subst f5_))
            obtain ⟨Ao44, co44, eo44⟩ := Kd.R_slice HO7015.out
            (first | subst eo44 | (injection eo44 with f1_ f2_ f3_; have f4_ := f1_.symm; have f5_ := f3_.symm; clear f1_ f2_ f3_; subst f4_; subst f5_))
            obtain ⟨Ao45, co45, eo45⟩ := Kd.R_slice HO7018.out
            (first | subst eo45 | (injection eo45 with f1_ f2_ f3_; have f4_ := f1_.symm; have f5_ := f3_.symm; clear f1_ f2_ f3_; subst f4_; subst f5_))
            refine hK.out _ _ ⟨(blk_cell BK7001.out 0).trans rfl, (blk_cell BK7001.out 1).trans rfl, (blk_cell BK7001.out 2).trans rfl, (blk_cell BK7002.out 0).trans rfl, (blk_cell BK7002.out 1).trans rfl, (blk_cell BK7002.out 2).trans rfl⟩ (fun hHeld => ?_)
            clear hK K
            refine norm_ (a' := ?_) ?_ ?_
            rotate_left
            · show Act.put _ (some 23) _ = _
              simp only [Act.put, List.setIfInBounds_toArray, List.set_cons_zero, List.set_cons_succ, i64_w, i32_w]
              rfl
            refine one_ (i := 4) (N := some 24) #[true, true, true, true, true, false] rfl rfl (by kernel_rfl) (by decide) (fun K hK => ?_)
            refine goes_ Try.func27 (by kernel_rfl) rfl #[.agg #[.int .i64 t7005, .slice Ao42 t7006.length co42, .slice Ao43 t7009.length co43], .agg #[.int .i64 t7012, .slice Ao44 t7013.length co44, .slice Ao45 t7016.length co45]] (by rfl) rfl rfl (by (try simp only [List.map_toArray, List.map_cons, List.map_nil]); first | done | rfl | (simp only [List.length_drop, List.length_take]; rfl)) ?_
            with_reducible refine (spec_SameStates.calls k t7005 _ _ t7006 _ _ t7009 t7012 _ _ t7013 _ _ t7016 t7019 _ ?side1 ?side2 ?side3 ?side4 ?side5 ?side6 ?side7 ?side8 A21.out).mono ?_
            (case side1 => repeat (first | exact (Kd.R_reads' HO7008.out).2.2 | (with_reducible refine Kd.C_alloc ?_ _) | (with_reducible refine Kd.C_drewN ?_ _) | (with_reducible refine Kd.C_drew ?_)))
            (case side2 => exact (Kd.R_reads' HO7008.out).2.1)
            (case side3 => repeat (first | exact (Kd.R_reads' HO7011.out).2.2 | (with_reducible refine Kd.C_alloc ?_ _) | (with_reducible refine Kd.C_drewN ?_ _) | (with_reducible refine Kd.C_drew ?_)))
            (case side4 => exact (Kd.R_reads' HO7011.out).2.1)
            (case side5 => repeat (first | exact (Kd.R_reads' HO7015.out).2.2 | (with_reducible refine Kd.C_alloc ?_ _) | (with_reducible refine Kd.C_drewN ?_ _) | (with_reducible refine Kd.C_drew ?_)))
            (case side6 => exact (Kd.R_reads' HO7015.out).2.1)
            (case side7 => repeat (first | exact (Kd.R_reads' HO7018.out).2.2 | (with_reducible refine Kd.C_alloc ?_ _) | (with_reducible refine Kd.C_drewN ?_ _) | (with_reducible refine Kd.C_drew ?_)))
            (case side8 => exact (Kd.R_reads' HO7018.out).2.1)
            rintro e w46 ⟨rfl, hb⟩
            refine ⟨_, rfl, ?_⟩
            have n0_ := Aside0.mk (Kd.R_below (by (with_reducible repeat (first | apply Kd.R_alloc | apply Kd.R_drewN | apply Kd.R_drew)); exact HO7008.out) hb)
            have n1_ := Aside0.mk (Kd.R_below (by (with_reducible repeat (first | apply Kd.R_alloc | apply Kd.R_drewN | apply Kd.R_drew)); exact HO7011.out) hb)
            have n2_ := Aside0.mk (Kd.R_below (by (with_reducible repeat (first | apply Kd.R_alloc | apply Kd.R_drewN | apply Kd.R_drew)); exact HO7015.out) hb)
            have n3_ := Aside0.mk (Kd.R_below (by (with_reducible repeat (first | apply Kd.R_alloc | apply Kd.R_drewN | apply Kd.R_drew)); exact HO7018.out) hb)
            have n4_ := Aside0.mk (blk_below (g := gb7001) (o := .cells #[.int .i64 a0_0, .slice A0_1 l0_1.length c0_1, .slice A0_2 l0_2.length c0_2] 31 (0, 0)) (by (with_reducible repeat (first | refine blk_drewN ?_ _ | refine blk_drew ?_ | refine blk_alloc ?_ _)); exact BK7001.out) hb)
            have n5_ := Aside0.mk (blk_below (g := gb7002) (o := .cells #[.int .i64 a1_0, .slice A1_1 l1_1.length c1_1, .slice A1_2 l1_2.length c1_2] 31 (0, 0)) (by (with_reducible repeat (first | refine blk_drewN ?_ _ | refine blk_drew ?_ | refine blk_alloc ?_ _)); exact BK7002.out) hb)
            have n6_ := Aside0.mk (below_step (by repeat (first | (with_reducible first | exact HB.out | apply below_alloc | apply pw_below_drewN | apply below_drew1 | refine below_set ?_ GE7001.out | refine below_set ?_ GE7002.out) | exact HB.out)) hb)
            clear HO7008
            clear HO7011
            clear HO7015
            clear HO7018
            clear BK7001
            clear BK7002
            clear HB
            have HO7008 := n0_
            have HO7011 := n1_
            have HO7015 := n2_
            have HO7018 := n3_
            have BK7001 := n4_
            have BK7002 := n5_
            have HB := n6_
            clear n0_ n1_ n2_ n3_ n4_ n5_ n6_
            (try clear hb)
            (try clear hb2)
            (try clear hk)
            (try clear hi)
            refine hK.out _ _ ⟨(blk_cell BK7001.out 0).trans rfl, (blk_cell BK7001.out 1).trans rfl, (blk_cell BK7001.out 2).trans rfl, (blk_cell BK7002.out 0).trans rfl, (blk_cell BK7002.out 1).trans rfl, (blk_cell BK7002.out 2).trans rfl⟩ (fun hHeld => ?_)
            clear hK K
            refine norm_ (a' := ?_) ?_ ?_
            rotate_left
            · show Act.put _ (some 24) _ = _
              simp only [Act.put, List.setIfInBounds_toArray, List.set_cons_zero, List.set_cons_succ, i64_w, i32_w]
              rfl
            refine pure_ (i := 5) (N := some 6) (v := ?_) (a' := ?_) #[true, true, true, true, true, true] rfl rfl (by kernel_rfl) (fun _ _ _ h => h) (Or.inl ⟨by rfl, ?_⟩) ?_ ?_
            rotate_left
            · intro w'
              go_simp
              with_reducible rfl
            rotate_left
            · simp only [Act.put, List.setIfInBounds_toArray, List.set_cons_zero, List.set_cons_succ, i64_w, i32_w]
              rfl
            refine done_ (by kernel_rfl) ?_
            have hcz47_0 : w46.cell? ⟨gb7001, 0, none⟩ = some (.int .i64 a0_0) := (blk_cell BK7001.out 0).trans rfl
            have hcz47_1 : w46.cell? ⟨gb7001, 1, none⟩ = some (.slice A0_1 l0_1.length c0_1) := (blk_cell BK7001.out 1).trans rfl
            have hcz47_2 : w46.cell? ⟨gb7001, 2, none⟩ = some (.slice A0_2 l0_2.length c0_2) := (blk_cell BK7001.out 2).trans rfl
            have hfz47_0 := blk_frozen BK7001.out 0
            have hfz47_1 := blk_frozen BK7001.out 1
            have hfz47_2 := blk_frozen BK7001.out 2
            try go_wp2_with (first | ((with_reducible refine gate_callee (f := 28) rfl ?_); refine goesL_ (some 26) rfl rfl Try.func28 (by kernel_rfl) rfl #[.agg #[.int .i64 a0_0, .slice A0_1 l0_1.length c0_1, .slice A0_2 l0_2.length c0_2]] rfl (by (try simp only [List.map_toArray, List.map_cons, List.map_nil]); first | done | rfl | (simp only [List.length_drop, List.length_take]; rfl)) ?_; (with_reducible refine (laws_toState.calls k a0_0 _ _ l0_1 _ _ l0_2 t7020 t7021 t7024 _ ?side1 ?side2 ?side3 ?side4 A22.out).mono ?_); (case side1 => repeat (first | exact (Kd.C_below HR0_1.out HB.out) | (with_reducible refine Kd.C_alloc ?_ _) | (with_reducible refine Kd.C_drewN ?_ _) | (with_reducible refine Kd.C_drew ?_))); (case side2 => exact HC0_1.out); (case side3 => repeat (first | exact (Kd.C_below HR0_2.out HB.out) | (with_reducible refine Kd.C_alloc ?_ _) | (with_reducible refine Kd.C_drewN ?_ _) | (with_reducible refine Kd.C_drew ?_))); (case side4 => exact HC0_2.out); rintro e w48 ⟨v7022, v7025, rfl, ho0, ho1, hb⟩; refine ⟨_, rfl, ?_⟩; have n0_ := Aside0.mk (Kd.R_mono (Kd.R_told (Kd.R_told (Kd.R_old (by (with_reducible repeat (first | apply Kd.R_alloc | apply Kd.R_drewN | apply Kd.R_drew)); exact HO7008.out) hb) (Kd.R_base ho0)) (Kd.R_base ho1)) (fun _ h_ => h_.1)); have n1_ := Aside0.mk (Kd.R_mono (Kd.R_told (Kd.R_told (Kd.R_old (by (with_reducible repeat (first | apply Kd.R_alloc | apply Kd.R_drewN | apply Kd.R_drew)); exact HO7011.out) hb) (Kd.R_base ho0)) (Kd.R_base ho1)) (fun _ h_ => h_.1)); have n2_ := Aside0.mk (Kd.R_mono (Kd.R_told (Kd.R_told (Kd.R_old (by (with_reducible repeat (first | apply Kd.R_alloc | apply Kd.R_drewN | apply Kd.R_drew)); exact HO7015.out) hb) (Kd.R_base ho0)) (Kd.R_base ho1)) (fun _ h_ => h_.1)); have n3_ := Aside0.mk (Kd.R_mono (Kd.R_told (Kd.R_told (Kd.R_old (by (with_reducible repeat (first | apply Kd.R_alloc | apply Kd.R_drewN | apply Kd.R_drew)); exact HO7018.out) hb) (Kd.R_base ho0)) (Kd.R_base ho1)) (fun _ h_ => h_.1)); have n4_ := Aside0.mk (Kd.R_lower (Kd.R_new' (Kd.R_new' (Kd.R_new' (Kd.R_new' ho0 (Kd.R_lt (by (with_reducible repeat (first | apply Kd.R_alloc | apply Kd.R_drewN | apply Kd.R_drew)); exact HO7008.out))) (Kd.R_lt (by (with_reducible repeat (first | apply Kd.R_alloc | apply Kd.R_drewN | apply Kd.R_drew)); exact HO7011.out))) (Kd.R_lt (by (with_reducible repeat (first | apply Kd.R_alloc | apply Kd.R_drewN | apply Kd.R_drew)); exact HO7015.out))) (Kd.R_lt (by (with_reducible repeat (first | apply Kd.R_alloc | apply Kd.R_drewN | apply Kd.R_drew)); exact HO7018.out))) (below_size (by repeat (first | (with_reducible first | exact HB.out | apply below_alloc | apply pw_below_drewN | apply below_drew1 | refine below_set ?_ GE7001.out | refine below_set ?_ GE7002.out) | exact HB.out)))); have n5_ := Aside0.mk (Kd.R_lower (Kd.R_new' (Kd.R_new' (Kd.R_new' (Kd.R_new' ho1 (Kd.R_lt (by (with_reducible repeat (first | apply Kd.R_alloc | apply Kd.R_drewN | apply Kd.R_drew)); exact HO7008.out))) (Kd.R_lt (by (with_reducible repeat (first | apply Kd.R_alloc | apply Kd.R_drewN | apply Kd.R_drew)); exact HO7011.out))) (Kd.R_lt (by (with_reducible repeat (first | apply Kd.R_alloc | apply Kd.R_drewN | apply Kd.R_drew)); exact HO7015.out))) (Kd.R_lt (by (with_reducible repeat (first | apply Kd.R_alloc | apply Kd.R_drewN | apply Kd.R_drew)); exact HO7018.out))) (below_size (by repeat (first | (with_reducible first | exact HB.out | apply below_alloc | apply pw_below_drewN | apply below_drew1 | refine below_set ?_ GE7001.out | refine below_set ?_ GE7002.out) | exact HB.out)))); have n6_ := Aside0.mk (blk_below (g := gb7001) (o := .cells #[.int .i64 a0_0, .slice A0_1 l0_1.length c0_1, .slice A0_2 l0_2.length c0_2] 31 (0, 0)) (by (with_reducible repeat (first | refine blk_drewN ?_ _ | refine blk_drew ?_ | refine blk_alloc ?_ _)); exact BK7001.out) hb); have n7_ := Aside0.mk (blk_below (g := gb7002) (o := .cells #[.int .i64 a1_0, .slice A1_1 l1_1.length c1_1, .slice A1_2 l1_2.length c1_2] 31 (0, 0)) (by (with_reducible repeat (first | refine blk_drewN ?_ _ | refine blk_drew ?_ | refine blk_alloc ?_ _)); exact BK7002.out) hb); have n8_ := Aside0.mk (below_step (by repeat (first | (with_reducible first | exact HB.out | apply below_alloc | apply pw_below_drewN | apply below_drew1 | refine below_set ?_ GE7001.out | refine below_set ?_ GE7002.out) | exact HB.out)) hb); clear HO7008; clear HO7011; clear HO7015; clear HO7018; clear BK7001; clear BK7002; clear HB; have HO7008 := n0_; have HO7011 := n1_; have HO7015 := n2_; have HO7018 := n3_; have HO7023 := n4_; have HO7026 := n5_; have BK7001 := n6_; have BK7002 := n7_; have HB := n8_; clear n0_ n1_ n2_ n3_ n4_ n5_ n6_ n7_ n8_; (try clear hb); (try clear hb2); (try clear hk); (try clear hi); (try clear ho0); (try clear ho1)) | ((with_reducible refine gate_dst (N := 7) rfl ?_); refine box_event ?hg (N := 7) ?hd (cs := #[.int .i64 0, .slice none 0 0, .slice none 0 0]) (t := 34) ?hr ?_; (case hd => rfl); (case hg => rfl); (case hr => first | (go_simp; done) | (go_simp; rfl)); intro gb7027 hg w49 hbox hb; have n0_ := Aside0.mk (Kd.R_below (by (with_reducible repeat (first | apply Kd.R_alloc | apply Kd.R_drewN | apply Kd.R_drew)); exact HO7008.out) hb); have n1_ := Aside0.mk (Kd.R_below (by (with_reducible repeat (first | apply Kd.R_alloc | apply Kd.R_drewN | apply Kd.R_drew)); exact HO7011.out) hb); have n2_ := Aside0.mk (Kd.R_below (by (with_reducible repeat (first | apply Kd.R_alloc | apply Kd.R_drewN | apply Kd.R_drew)); exact HO7015.out) hb); have n3_ := Aside0.mk (Kd.R_below (by (with_reducible repeat (first | apply Kd.R_alloc | apply Kd.R_drewN | apply Kd.R_drew)); exact HO7018.out) hb); have n4_ := Aside0.mk (Kd.R_below (by (with_reducible repeat (first | apply Kd.R_alloc | apply Kd.R_drewN | apply Kd.R_drew)); exact HO7023.out) hb); have n5_ := Aside0.mk (Kd.R_below (by (with_reducible repeat (first | apply Kd.R_alloc | apply Kd.R_drewN | apply Kd.R_drew)); exact HO7026.out) hb); have n6_ := Aside0.mk (blk_below (g := gb7001) (o := .cells #[.int .i64 a0_0, .slice A0_1 l0_1.length c0_1, .slice A0_2 l0_2.length c0_2] 31 (0, 0)) (by (with_reducible repeat (first | refine blk_drewN ?_ _ | refine blk_drew ?_ | refine blk_alloc ?_ _)); exact BK7001.out) hb); have n7_ := Aside0.mk (blk_below (g := gb7002) (o := .cells #[.int .i64 a1_0, .slice A1_1 l1_1.length c1_1, .slice A1_2 l1_2.length c1_2] 31 (0, 0)) (by (with_reducible repeat (first | refine blk_drewN ?_ _ | refine blk_drew ?_ | refine blk_alloc ?_ _)); exact BK7002.out) hb); have n8_ := Aside0.mk (below_step (by repeat (first | (with_reducible first | exact HB.out | apply below_alloc | apply pw_below_drewN | apply below_drew1 | refine below_set ?_ GE7001.out | refine below_set ?_ GE7002.out) | exact HB.out)) hb); have n9_ := Aside0.mk (hbox); have n10_ := Aside0.mk ((by rw [hg]; exact (below_size (by repeat (first | (with_reducible first | exact HB.out | apply below_alloc | apply pw_below_drewN | apply below_drew1 | refine below_set ?_ GE7001.out | refine below_set ?_ GE7002.out) | exact HB.out))) : w.heap.size ≤ gb7027)); have n11_ := Aside0.mk ((by rw [hg]; exact (below_size (by repeat (first | (with_reducible first | exact HB.out | apply below_alloc | apply pw_below_drewN | apply below_drew1 | refine below_set ?_ GE7001.out | refine below_set ?_ GE7002.out) | exact HB.out))) : w.heap.size ≤ gb7027)); have n12_ := Aside0.mk ((by rw [hg]; exact Nat.ne_of_lt (blk_lt (g := gb7001) (o := .cells #[.int .i64 a0_0, .slice A0_1 l0_1.length c0_1, .slice A0_2 l0_2.length c0_2] 31 (0, 0)) (by (with_reducible repeat (first | refine blk_drewN ?_ _ | refine blk_drew ?_ | refine blk_alloc ?_ _)); exact BK7001.out)) : gb7001 ≠ gb7027)); have n13_ := Aside0.mk ((by rw [hg]; exact Nat.ne_of_gt (blk_lt (g := gb7001) (o := .cells #[.int .i64 a0_0, .slice A0_1 l0_1.length c0_1, .slice A0_2 l0_2.length c0_2] 31 (0, 0)) (by (with_reducible repeat (first | refine blk_drewN ?_ _ | refine blk_drew ?_ | refine blk_alloc ?_ _)); exact BK7001.out)) : gb7027 ≠ gb7001)); have n14_ := Aside0.mk ((by rw [hg]; exact Nat.ne_of_lt (blk_lt (g := gb7002) (o := .cells #[.int .i64 a1_0, .slice A1_1 l1_1.length c1_1, .slice A1_2 l1_2.length c1_2] 31 (0, 0)) (by (with_reducible repeat (first | refine blk_drewN ?_ _ | refine blk_drew ?_ | refine blk_alloc ?_ _)); exact BK7002.out)) : gb7002 ≠ gb7027)); have n15_ := Aside0.mk ((by rw [hg]; exact Nat.ne_of_gt (blk_lt (g := gb7002) (o := .cells #[.int .i64 a1_0, .slice A1_1 l1_1.length c1_1, .slice A1_2 l1_2.length c1_2] 31 (0, 0)) (by (with_reducible repeat (first | refine blk_drewN ?_ _ | refine blk_drew ?_ | refine blk_alloc ?_ _)); exact BK7002.out)) : gb7027 ≠ gb7002)); clear HO7008; clear HO7011; clear HO7015; clear HO7018; clear HO7023; clear HO7026; clear BK7001; clear BK7002; clear HB; have HO7008 := n0_; have HO7011 := n1_; have HO7015 := n2_; have HO7018 := n3_; have HO7023 := n4_; have HO7026 := n5_; have BK7001 := n6_; have BK7002 := n7_; have HB := n8_; have BK7027 := n9_; have GW7027 := n10_; have GE7027 := n11_; have NB7001_7027 := n12_; have NB7027_7001 := n13_; have NB7002_7027 := n14_; have NB7027_7002 := n15_; clear n0_ n1_ n2_ n3_ n4_ n5_ n6_ n7_ n8_ n9_ n10_ n11_ n12_ n13_ n14_ n15_; clear hb hbox hg; have hnb50 := NB7027_7001.out; have hnc50 := NB7001_7027.out; have hnb51 := NB7027_7002.out; have hnc51 := NB7002_7027.out; have hcz52_0 : w49.cell? ⟨gb7027, 0, none⟩ = some (.int .i64 0) := (blk_cell BK7027.out 0).trans rfl; have hcz52_1 : w49.cell? ⟨gb7027, 1, none⟩ = some (.slice none 0 0) := (blk_cell BK7027.out 1).trans rfl; have hcz52_2 : w49.cell? ⟨gb7027, 2, none⟩ = some (.slice none 0 0) := (blk_cell BK7027.out 2).trans rfl; have hfz52_0 := blk_frozen BK7027.out 0; have hfz52_1 := blk_frozen BK7027.out 1; have hfz52_2 := blk_frozen BK7027.out 2; obtain ⟨Ao53, co53, eo53⟩ := Kd.R_slice HO7023.out; subst eo53; obtain ⟨Ao54, co54, eo54⟩ := Kd.R_slice HO7026.out; subst eo54; have hcz55_0 : w49.cell? ⟨gb7002, 0, none⟩ = some (.int .i64 a1_0) := (blk_cell BK7002.out 0).trans rfl; have hcz55_1 : w49.cell? ⟨gb7002, 1, none⟩ = some (.slice A1_1 l1_1.length c1_1) := (blk_cell BK7002.out 1).trans rfl; have hcz55_2 : w49.cell? ⟨gb7002, 2, none⟩ = some (.slice A1_2 l1_2.length c1_2) := (blk_cell BK7002.out 2).trans rfl; have hfz55_0 := blk_frozen BK7002.out 0; have hfz55_1 := blk_frozen BK7002.out 1; have hfz55_2 := blk_frozen BK7002.out 2) | ((with_reducible refine gate_callee (f := 28) rfl ?_); refine goesL_ (some 28) rfl rfl Try.func28 (by kernel_rfl) rfl #[.agg #[.int .i64 a1_0, .slice A1_1 l1_1.length c1_1, .slice A1_2 l1_2.length c1_2]] rfl (by (try simp only [List.map_toArray, List.map_cons, List.map_nil]); first | done | rfl | (simp only [List.length_drop, List.length_take]; rfl)) ?_; (with_reducible refine (laws_toState.calls k a1_0 _ _ l1_1 _ _ l1_2 t7028 t7029 t7032 _ ?side1 ?side2 ?side3 ?side4 A23.out).mono ?_); (case side1 => exact Kd.C_below HR1_1.out (by repeat (first | (with_reducible first | exact HB.out | apply below_alloc | apply pw_below_drewN | apply below_drew1 | refine below_set ?_ GE7001.out | refine below_set ?_ GE7002.out | refine below_set ?_ GE7027.out) | exact HB.out))); (case side2 => exact HC1_1.out); (case side3 => exact Kd.C_below HR1_2.out (by repeat (first | (with_reducible first | exact HB.out | apply below_alloc | apply pw_below_drewN | apply below_drew1 | refine below_set ?_ GE7001.out | refine below_set ?_ GE7002.out | refine below_set ?_ GE7027.out) | exact HB.out))); (case side4 => exact HC1_2.out); rintro e w56 ⟨v7030, v7033, rfl, ho0, ho1, hb⟩; refine ⟨_, rfl, ?_⟩; have n0_ := Aside0.mk (Kd.R_mono (Kd.R_told (Kd.R_told (Kd.R_old (by (with_reducible repeat (first | apply Kd.R_alloc | apply Kd.R_drewN | apply Kd.R_drew)); exact (Kd.R_mono (Kd.R_far (p := ⟨gb7027, 2, none⟩) (Kd.R_far (p := ⟨gb7027, 1, none⟩) (Kd.R_far (p := ⟨gb7027, 0, none⟩) (Kd.R_types HO7008.out BK7027.out (by decide)) (fun _ hk => hk.2) (.int .i64 t7020)) (fun _ hk => hk.2) (.slice Ao53 t7021.length co53)) (fun _ hk => hk.2) (.slice Ao54 t7024.length co54)) (fun _ h_ => h_.1))) hb) (Kd.R_base ho0)) (Kd.R_base ho1)) (fun _ h_ => h_.1)); have n1_ := Aside0.mk (Kd.R_mono (Kd.R_told (Kd.R_told (Kd.R_old (by (with_reducible repeat (first | apply Kd.R_alloc | apply Kd.R_drewN | apply Kd.R_drew)); exact (Kd.R_mono (Kd.R_far (p := ⟨gb7027, 2, none⟩) (Kd.R_far (p := ⟨gb7027, 1, none⟩) (Kd.R_far (p := ⟨gb7027, 0, none⟩) (Kd.R_types HO7011.out BK7027.out (by decide)) (fun _ hk => hk.2) (.int .i64 t7020)) (fun _ hk => hk.2) (.slice Ao53 t7021.length co53)) (fun _ hk => hk.2) (.slice Ao54 t7024.length co54)) (fun _ h_ => h_.1))) hb) (Kd.R_base ho0)) (Kd.R_base ho1)) (fun _ h_ => h_.1)); have n2_ := Aside0.mk (Kd.R_mono (Kd.R_told (Kd.R_told (Kd.R_old (by (with_reducible repeat (first | apply Kd.R_alloc | apply Kd.R_drewN | apply Kd.R_drew)); exact (Kd.R_mono (Kd.R_far (p := ⟨gb7027, 2, none⟩) (Kd.R_far (p := ⟨gb7027, 1, none⟩) (Kd.R_far (p := ⟨gb7027, 0, none⟩) (Kd.R_types HO7015.out BK7027.out (by decide)) (fun _ hk => hk.2) (.int .i64 t7020)) (fun _ hk => hk.2) (.slice Ao53 t7021.length co53)) (fun _ hk => hk.2) (.slice Ao54 t7024.length co54)) (fun _ h_ => h_.1))) hb) (Kd.R_base ho0)) (Kd.R_base ho1)) (fun _ h_ => h_.1)); have n3_ := Aside0.mk (Kd.R_mono (Kd.R_told (Kd.R_told (Kd.R_old (by (with_reducible repeat (first | apply Kd.R_alloc | apply Kd.R_drewN | apply Kd.R_drew)); exact (Kd.R_mono (Kd.R_far (p := ⟨gb7027, 2, none⟩) (Kd.R_far (p := ⟨gb7027, 1, none⟩) (Kd.R_far (p := ⟨gb7027, 0, none⟩) (Kd.R_types HO7018.out BK7027.out (by decide)) (fun _ hk => hk.2) (.int .i64 t7020)) (fun _ hk => hk.2) (.slice Ao53 t7021.length co53)) (fun _ hk => hk.2) (.slice Ao54 t7024.length co54)) (fun _ h_ => h_.1))) hb) (Kd.R_base ho0)) (Kd.R_base ho1)) (fun _ h_ => h_.1)); have n4_ := Aside0.mk (Kd.R_mono (Kd.R_told (Kd.R_told (Kd.R_old (by (with_reducible repeat (first | apply Kd.R_alloc | apply Kd.R_drewN | apply Kd.R_drew)); exact (Kd.R_mono (Kd.R_far (p := ⟨gb7027, 2, none⟩) (Kd.R_far (p := ⟨gb7027, 1, none⟩) (Kd.R_far (p := ⟨gb7027, 0, none⟩) (Kd.R_types HO7023.out BK7027.out (by decide)) (fun _ hk => hk.2) (.int .i64 t7020)) (fun _ hk => hk.2) (.slice Ao53 t7021.length co53)) (fun _ hk => hk.2) (.slice Ao54 t7024.length co54)) (fun _ h_ => h_.1))) hb) (Kd.R_base ho0)) (Kd.R_base ho1)) (fun _ h_ => h_.1)); have n5_ := Aside0.mk (Kd.R_mono (Kd.R_told (Kd.R_told (Kd.R_old (by (with_reducible repeat (first | apply Kd.R_alloc | apply Kd.R_drewN | apply Kd.R_drew)); exact (Kd.R_mono (Kd.R_far (p := ⟨gb7027, 2, none⟩) (Kd.R_far (p := ⟨gb7027, 1, none⟩) (Kd.R_far (p := ⟨gb7027, 0, none⟩) (Kd.R_types HO7026.out BK7027.out (by decide)) (fun _ hk => hk.2) (.int .i64 t7020)) (fun _ hk => hk.2) (.slice Ao53 t7021.length co53)) (fun _ hk => hk.2) (.slice Ao54 t7024.length co54)) (fun _ h_ => h_.1))) hb) (Kd.R_base ho0)) (Kd.R_base ho1)) (fun _ h_ => h_.1)); have n6_ := Aside0.mk (Kd.R_lower (Kd.R_new' (Kd.R_new' (Kd.R_new' (Kd.R_new' (Kd.R_new' (Kd.R_new' ho0 (Kd.R_lt (by (with_reducible repeat (first | apply Kd.R_alloc | apply Kd.R_drewN | apply Kd.R_drew)); exact (Kd.R_mono (Kd.R_far (p := ⟨gb7027, 2, none⟩) (Kd.R_far (p := ⟨gb7027, 1, none⟩) (Kd.R_far (p := ⟨gb7027, 0, none⟩) (Kd.R_types HO7008.out BK7027.out (by decide)) (fun _ hk => hk.2) (.int .i64 t7020)) (fun _ hk => hk.2) (.slice Ao53 t7021.length co53)) (fun _ hk => hk.2) (.slice Ao54 t7024.length co54)) (fun _ h_ => h_.1))))) (Kd.R_lt (by (with_reducible repeat (first | apply Kd.R_alloc | apply Kd.R_drewN | apply Kd.R_drew)); exact (Kd.R_mono (Kd.R_far (p := ⟨gb7027, 2, none⟩) (Kd.R_far (p := ⟨gb7027, 1, none⟩) (Kd.R_far (p := ⟨gb7027, 0, none⟩) (Kd.R_types HO7011.out BK7027.out (by decide)) (fun _ hk => hk.2) (.int .i64 t7020)) (fun _ hk => hk.2) (.slice Ao53 t7021.length co53)) (fun _ hk => hk.2) (.slice Ao54 t7024.length co54)) (fun _ h_ => h_.1))))) (Kd.R_lt (by (with_reducible repeat (first | apply Kd.R_alloc | apply Kd.R_drewN | apply Kd.R_drew)); exact (Kd.R_mono (Kd.R_far (p := ⟨gb7027, 2, none⟩) (Kd.R_far (p := ⟨gb7027, 1, none⟩) (Kd.R_far (p := ⟨gb7027, 0, none⟩) (Kd.R_types HO7015.out BK7027.out (by decide)) (fun _ hk => hk.2) (.int .i64 t7020)) (fun _ hk => hk.2) (.slice Ao53 t7021.length co53)) (fun _ hk => hk.2) (.slice Ao54 t7024.length co54)) (fun _ h_ => h_.1))))) (Kd.R_lt (by (with_reducible repeat (first | apply Kd.R_alloc | apply Kd.R_drewN | apply Kd.R_drew)); exact (Kd.R_mono (Kd.R_far (p := ⟨gb7027, 2, none⟩) (Kd.R_far (p := ⟨gb7027, 1, none⟩) (Kd.R_far (p := ⟨gb7027, 0, none⟩) (Kd.R_types HO7018.out BK7027.out (by decide)) (fun _ hk => hk.2) (.int .i64 t7020)) (fun _ hk => hk.2) (.slice Ao53 t7021.length co53)) (fun _ hk => hk.2) (.slice Ao54 t7024.length co54)) (fun _ h_ => h_.1))))) (Kd.R_lt (by (with_reducible repeat (first | apply Kd.R_alloc | apply Kd.R_drewN | apply Kd.R_drew)); exact (Kd.R_mono (Kd.R_far (p := ⟨gb7027, 2, none⟩) (Kd.R_far (p := ⟨gb7027, 1, none⟩) (Kd.R_far (p := ⟨gb7027, 0, none⟩) (Kd.R_types HO7023.out BK7027.out (by decide)) (fun _ hk => hk.2) (.int .i64 t7020)) (fun _ hk => hk.2) (.slice Ao53 t7021.length co53)) (fun _ hk => hk.2) (.slice Ao54 t7024.length co54)) (fun _ h_ => h_.1))))) (Kd.R_lt (by (with_reducible repeat (first | apply Kd.R_alloc | apply Kd.R_drewN | apply Kd.R_drew)); exact (Kd.R_mono (Kd.R_far (p := ⟨gb7027, 2, none⟩) (Kd.R_far (p := ⟨gb7027, 1, none⟩) (Kd.R_far (p := ⟨gb7027, 0, none⟩) (Kd.R_types HO7026.out BK7027.out (by decide)) (fun _ hk => hk.2) (.int .i64 t7020)) (fun _ hk => hk.2) (.slice Ao53 t7021.length co53)) (fun _ hk => hk.2) (.slice Ao54 t7024.length co54)) (fun _ h_ => h_.1))))) (below_size (by repeat (first | (with_reducible first | exact HB.out | apply below_alloc | apply pw_below_drewN | apply below_drew1 | refine below_set ?_ GE7001.out | refine below_set ?_ GE7002.out | refine below_set ?_ GE7027.out) | exact HB.out)))); have n7_ := Aside0.mk (Kd.R_lower (Kd.R_new' (Kd.R_new' (Kd.R_new' (Kd.R_new' (Kd.R_new' (Kd.R_new' ho1 (Kd.R_lt (by (with_reducible repeat (first | apply Kd.R_alloc | apply Kd.R_drewN | apply Kd.R_drew)); exact (Kd.R_mono (Kd.R_far (p := ⟨gb7027, 2, none⟩) (Kd.R_far (p := ⟨gb7027, 1, none⟩) (Kd.R_far (p := ⟨gb7027, 0, none⟩) (Kd.R_types HO7008.out BK7027.out (by decide)) (fun _ hk => hk.2) (.int .i64 t7020)) (fun _ hk => hk.2) (.slice Ao53 t7021.length co53)) (fun _ hk => hk.2) (.slice Ao54 t7024.length co54)) (fun _ h_ => h_.1))))) (Kd.R_lt (by (with_reducible repeat (first | apply Kd.R_alloc | apply Kd.R_drewN | apply Kd.R_drew)); exact (Kd.R_mono (Kd.R_far (p := ⟨gb7027, 2, none⟩) (Kd.R_far (p := ⟨gb7027, 1, none⟩) (Kd.R_far (p := ⟨gb7027, 0, none⟩) (Kd.R_types HO7011.out BK7027.out (by decide)) (fun _ hk => hk.2) (.int .i64 t7020)) (fun _ hk => hk.2) (.slice Ao53 t7021.length co53)) (fun _ hk => hk.2) (.slice Ao54 t7024.length co54)) (fun _ h_ => h_.1))))) (Kd.R_lt (by (with_reducible repeat (first | apply Kd.R_alloc | apply Kd.R_drewN | apply Kd.R_drew)); exact (Kd.R_mono (Kd.R_far (p := ⟨gb7027, 2, none⟩) (Kd.R_far (p := ⟨gb7027, 1, none⟩) (Kd.R_far (p := ⟨gb7027, 0, none⟩) (Kd.R_types HO7015.out BK7027.out (by decide)) (fun _ hk => hk.2) (.int .i64 t7020)) (fun _ hk => hk.2) (.slice Ao53 t7021.length co53)) (fun _ hk => hk.2) (.slice Ao54 t7024.length co54)) (fun _ h_ => h_.1))))) (Kd.R_lt (by (with_reducible repeat (first | apply Kd.R_alloc | apply Kd.R_drewN | apply Kd.R_drew)); exact (Kd.R_mono (Kd.R_far (p := ⟨gb7027, 2, none⟩) (Kd.R_far (p := ⟨gb7027, 1, none⟩) (Kd.R_far (p := ⟨gb7027, 0, none⟩) (Kd.R_types HO7018.out BK7027.out (by decide)) (fun _ hk => hk.2) (.int .i64 t7020)) (fun _ hk => hk.2) (.slice Ao53 t7021.length co53)) (fun _ hk => hk.2) (.slice Ao54 t7024.length co54)) (fun _ h_ => h_.1))))) (Kd.R_lt (by (with_reducible repeat (first | apply Kd.R_alloc | apply Kd.R_drewN | apply Kd.R_drew)); exact (Kd.R_mono (Kd.R_far (p := ⟨gb7027, 2, none⟩) (Kd.R_far (p := ⟨gb7027, 1, none⟩) (Kd.R_far (p := ⟨gb7027, 0, none⟩) (Kd.R_types HO7023.out BK7027.out (by decide)) (fun _ hk => hk.2) (.int .i64 t7020)) (fun _ hk => hk.2) (.slice Ao53 t7021.length co53)) (fun _ hk => hk.2) (.slice Ao54 t7024.length co54)) (fun _ h_ => h_.1))))) (Kd.R_lt (by (with_reducible repeat (first | apply Kd.R_alloc | apply Kd.R_drewN | apply Kd.R_drew)); exact (Kd.R_mono (Kd.R_far (p := ⟨gb7027, 2, none⟩) (Kd.R_far (p := ⟨gb7027, 1, none⟩) (Kd.R_far (p := ⟨gb7027, 0, none⟩) (Kd.R_types HO7026.out BK7027.out (by decide)) (fun _ hk => hk.2) (.int .i64 t7020)) (fun _ hk => hk.2) (.slice Ao53 t7021.length co53)) (fun _ hk => hk.2) (.slice Ao54 t7024.length co54)) (fun _ h_ => h_.1))))) (below_size (by repeat (first | (with_reducible first | exact HB.out | apply below_alloc | apply pw_below_drewN | apply below_drew1 | refine below_set ?_ GE7001.out | refine below_set ?_ GE7002.out | refine below_set ?_ GE7027.out) | exact HB.out)))); have n8_ := Aside0.mk (blk_below (g := gb7001) (o := .cells #[.int .i64 a0_0, .slice A0_1 l0_1.length c0_1, .slice A0_2 l0_2.length c0_2] 31 (0, 0)) (by (with_reducible repeat (first | refine blk_drewN ?_ _ | refine blk_drew ?_ | refine blk_alloc ?_ _)); refine blk_far ?_ NB7001_7027.out _; (with_reducible repeat (first | refine blk_drewN ?_ _ | refine blk_drew ?_ | refine blk_alloc ?_ _)); refine blk_far ?_ NB7001_7027.out _; (with_reducible repeat (first | refine blk_drewN ?_ _ | refine blk_drew ?_ | refine blk_alloc ?_ _)); refine blk_far ?_ NB7001_7027.out _; (with_reducible repeat (first | refine blk_drewN ?_ _ | refine blk_drew ?_ | refine blk_alloc ?_ _)); exact BK7001.out) hb); have n9_ := Aside0.mk (blk_below (g := gb7002) (o := .cells #[.int .i64 a1_0, .slice A1_1 l1_1.length c1_1, .slice A1_2 l1_2.length c1_2] 31 (0, 0)) (by (with_reducible repeat (first | refine blk_drewN ?_ _ | refine blk_drew ?_ | refine blk_alloc ?_ _)); refine blk_far ?_ NB7002_7027.out _; (with_reducible repeat (first | refine blk_drewN ?_ _ | refine blk_drew ?_ | refine blk_alloc ?_ _)); refine blk_far ?_ NB7002_7027.out _; (with_reducible repeat (first | refine blk_drewN ?_ _ | refine blk_drew ?_ | refine blk_alloc ?_ _)); refine blk_far ?_ NB7002_7027.out _; (with_reducible repeat (first | refine blk_drewN ?_ _ | refine blk_drew ?_ | refine blk_alloc ?_ _)); exact BK7002.out) hb); have n10_ := Aside0.mk (blk_below (g := gb7027) (o := .cells #[.int .i64 t7020, .slice Ao53 t7021.length co53, .slice Ao54 t7024.length co54] 34 (0, 0)) (by (with_reducible repeat (first | refine blk_drewN ?_ _ | refine blk_drew ?_ | refine blk_alloc ?_ _)); refine blk_put (cs := #[.int .i64 t7020, .slice Ao53 t7021.length co53, .slice none 0 0]) ?_ 2 _ rfl; (with_reducible repeat (first | refine blk_drewN ?_ _ | refine blk_drew ?_ | refine blk_alloc ?_ _)); refine blk_put (cs := #[.int .i64 t7020, .slice none 0 0, .slice none 0 0]) ?_ 1 _ rfl; (with_reducible repeat (first | refine blk_drewN ?_ _ | refine blk_drew ?_ | refine blk_alloc ?_ _)); refine blk_put (cs := #[.int .i64 0, .slice none 0 0, .slice none 0 0]) ?_ 0 _ rfl; (with_reducible repeat (first | refine blk_drewN ?_ _ | refine blk_drew ?_ | refine blk_alloc ?_ _)); exact BK7027.out) hb); have n11_ := Aside0.mk (below_step (by repeat (first | (with_reducible first | exact HB.out | apply below_alloc | apply pw_below_drewN | apply below_drew1 | refine below_set ?_ GE7001.out | refine below_set ?_ GE7002.out | refine below_set ?_ GE7027.out) | exact HB.out)) hb); clear HO7008; clear HO7011; clear HO7015; clear HO7018; clear HO7023; clear HO7026; clear BK7001; clear BK7002; clear BK7027; clear HB; have HO7008 := n0_; have HO7011 := n1_; have HO7015 := n2_; have HO7018 := n3_; have HO7023 := n4_; have HO7026 := n5_; have HO7031 := n6_; have HO7034 := n7_; have BK7001 := n8_; have BK7002 := n9_; have BK7027 := n10_; have HB := n11_; clear n0_ n1_ n2_ n3_ n4_ n5_ n6_ n7_ n8_ n9_ n10_ n11_; (try clear hb); (try clear hb2); (try clear hk); (try clear hi); (try clear ho0); (try clear ho1)) | ((with_reducible refine gate_dst (N := 8) rfl ?_); refine box_event ?hg (N := 8) ?hd (cs := #[.int .i64 0, .slice none 0 0, .slice none 0 0]) (t := 34) ?hr ?_; (case hd => rfl); (case hg => rfl); (case hr => first | (go_simp; done) | (go_simp; rfl)); intro gb7035 hg w57 hbox hb; have n0_ := Aside0.mk (Kd.R_below (by (with_reducible repeat (first | apply Kd.R_alloc | apply Kd.R_drewN | apply Kd.R_drew)); exact HO7008.out) hb); have n1_ := Aside0.mk (Kd.R_below (by (with_reducible repeat (first | apply Kd.R_alloc | apply Kd.R_drewN | apply Kd.R_drew)); exact HO7011.out) hb); have n2_ := Aside0.mk (Kd.R_below (by (with_reducible repeat (first | apply Kd.R_alloc | apply Kd.R_drewN | apply Kd.R_drew)); exact HO7015.out) hb); have n3_ := Aside0.mk (Kd.R_below (by (with_reducible repeat (first | apply Kd.R_alloc | apply Kd.R_drewN | apply Kd.R_drew)); exact HO7018.out) hb); have n4_ := Aside0.mk (Kd.R_below (by (with_reducible repeat (first | apply Kd.R_alloc | apply Kd.R_drewN | apply Kd.R_drew)); exact HO7023.out) hb); have n5_ := Aside0.mk (Kd.R_below (by (with_reducible repeat (first | apply Kd.R_alloc | apply Kd.R_drewN | apply Kd.R_drew)); exact HO7026.out) hb); have n6_ := Aside0.mk (Kd.R_below (by (with_reducible repeat (first | apply Kd.R_alloc | apply Kd.R_drewN | apply Kd.R_drew)); exact HO7031.out) hb); have n7_ := Aside0.mk (Kd.R_below (by (with_reducible repeat (first | apply Kd.R_alloc | apply Kd.R_drewN | apply Kd.R_drew)); exact HO7034.out) hb); have n8_ := Aside0.mk (blk_below (g := gb7001) (o := .cells #[.int .i64 a0_0, .slice A0_1 l0_1.length c0_1, .slice A0_2 l0_2.length c0_2] 31 (0, 0)) (by (with_reducible repeat (first | refine blk_drewN ?_ _ | refine blk_drew ?_ | refine blk_alloc ?_ _)); exact BK7001.out) hb); have n9_ := Aside0.mk (blk_below (g := gb7002) (o := .cells #[.int .i64 a1_0, .slice A1_1 l1_1.length c1_1, .slice A1_2 l1_2.length c1_2] 31 (0, 0)) (by (with_reducible repeat (first | refine blk_drewN ?_ _ | refine blk_drew ?_ | refine blk_alloc ?_ _)); exact BK7002.out) hb); have n10_ := Aside0.mk (blk_below (g := gb7027) (o := .cells #[.int .i64 t7020, .slice Ao53 t7021.length co53, .slice Ao54 t7024.length co54] 34 (0, 0)) (by (with_reducible repeat (first | refine blk_drewN ?_ _ | refine blk_drew ?_ | refine blk_alloc ?_ _)); exact BK7027.out) hb); have n11_ := Aside0.mk (below_step (by repeat (first | (with_reducible first | exact HB.out | apply below_alloc | apply pw_below_drewN | apply below_drew1 | refine below_set ?_ GE7001.out | refine below_set ?_ GE7002.out | refine below_set ?_ GE7027.out) | exact HB.out)) hb); have n12_ := Aside0.mk (hbox); have n13_ := Aside0.mk ((by rw [hg]; exact (below_size (by repeat (first | (with_reducible first | exact HB.out | apply below_alloc | apply pw_below_drewN | apply below_drew1 | refine below_set ?_ GE7001.out | refine below_set ?_ GE7002.out | refine below_set ?_ GE7027.out) | exact HB.out))) : w.heap.size ≤ gb7035)); have n14_ := Aside0.mk ((by rw [hg]; exact (below_size (by repeat (first | (with_reducible first | exact HB.out | apply below_alloc | apply pw_below_drewN | apply below_drew1 | refine below_set ?_ GE7001.out | refine below_set ?_ GE7002.out | refine below_set ?_ GE7027.out) | exact HB.out))) : w.heap.size ≤ gb7035)); have n15_ := Aside0.mk ((by rw [hg]; exact Nat.ne_of_lt (blk_lt (g := gb7001) (o := .cells #[.int .i64 a0_0, .slice A0_1 l0_1.length c0_1, .slice A0_2 l0_2.length c0_2] 31 (0, 0)) (by (with_reducible repeat (first | refine blk_drewN ?_ _ | refine blk_drew ?_ | refine blk_alloc ?_ _)); exact BK7001.out)) : gb7001 ≠ gb7035)); have n16_ := Aside0.mk ((by rw [hg]; exact Nat.ne_of_gt (blk_lt (g := gb7001) (o := .cells #[.int .i64 a0_0, .slice A0_1 l0_1.length c0_1, .slice A0_2 l0_2.length c0_2] 31 (0, 0)) (by (with_reducible repeat (first | refine blk_drewN ?_ _ | refine blk_drew ?_ | refine blk_alloc ?_ _)); exact BK7001.out)) : gb7035 ≠ gb7001)); have n17_ := Aside0.mk ((by rw [hg]; exact Nat.ne_of_lt (blk_lt (g := gb7002) (o := .cells #[.int .i64 a1_0, .slice A1_1 l1_1.length c1_1, .slice A1_2 l1_2.length c1_2] 31 (0, 0)) (by (with_reducible repeat (first | refine blk_drewN ?_ _ | refine blk_drew ?_ | refine blk_alloc ?_ _)); exact BK7002.out)) : gb7002 ≠ gb7035)); have n18_ := Aside0.mk ((by rw [hg]; exact Nat.ne_of_gt (blk_lt (g := gb7002) (o := .cells #[.int .i64 a1_0, .slice A1_1 l1_1.length c1_1, .slice A1_2 l1_2.length c1_2] 31 (0, 0)) (by (with_reducible repeat (first | refine blk_drewN ?_ _ | refine blk_drew ?_ | refine blk_alloc ?_ _)); exact BK7002.out)) : gb7035 ≠ gb7002)); have n19_ := Aside0.mk ((by rw [hg]; exact Nat.ne_of_lt (blk_lt (g := gb7027) (o := .cells #[.int .i64 t7020, .slice Ao53 t7021.length co53, .slice Ao54 t7024.length co54] 34 (0, 0)) (by (with_reducible repeat (first | refine blk_drewN ?_ _ | refine blk_drew ?_ | refine blk_alloc ?_ _)); exact BK7027.out)) : gb7027 ≠ gb7035)); have n20_ := Aside0.mk ((by rw [hg]; exact Nat.ne_of_gt (blk_lt (g := gb7027) (o := .cells #[.int .i64 t7020, .slice Ao53 t7021.length co53, .slice Ao54 t7024.length co54] 34 (0, 0)) (by (with_reducible repeat (first | refine blk_drewN ?_ _ | refine blk_drew ?_ | refine blk_alloc ?_ _)); exact BK7027.out)) : gb7035 ≠ gb7027)); clear HO7008; clear HO7011; clear HO7015; clear HO7018; clear HO7023; clear HO7026; clear HO7031; clear HO7034; clear BK7001; clear BK7002; clear BK7027; clear HB; have HO7008 := n0_; have HO7011 := n1_; have HO7015 := n2_; have HO7018 := n3_; have HO7023 := n4_; have HO7026 := n5_; have HO7031 := n6_; have HO7034 := n7_; have BK7001 := n8_; have BK7002 := n9_; have BK7027 := n10_; have HB := n11_; have BK7035 := n12_; have GW7035 := n13_; have GE7035 := n14_; have NB7001_7035 := n15_; have NB7035_7001 := n16_; have NB7002_7035 := n17_; have NB7035_7002 := n18_; have NB7027_7035 := n19_; have NB7035_7027 := n20_; clear n0_ n1_ n2_ n3_ n4_ n5_ n6_ n7_ n8_ n9_ n10_ n11_ n12_ n13_ n14_ n15_ n16_ n17_ n18_ n19_ n20_; clear hb hbox hg; have hnb58 := NB7035_7001.out; have hnc58 := NB7001_7035.out; have hnb59 := NB7035_7002.out; have hnc59 := NB7002_7035.out; have hnb60 := NB7035_7027.out; have hnc60 := NB7027_7035.out; have hcz61_0 : w57.cell? ⟨gb7035, 0, none⟩ = some (.int .i64 0) := (blk_cell BK7035.out 0).trans rfl; have hcz61_1 : w57.cell? ⟨gb7035, 1, none⟩ = some (.slice none 0 0) := (blk_cell BK7035.out 1).trans rfl; have hcz61_2 : w57.cell? ⟨gb7035, 2, none⟩ = some (.slice none 0 0) := (blk_cell BK7035.out 2).trans rfl; have hfz61_0 := blk_frozen BK7035.out 0; have hfz61_1 := blk_frozen BK7035.out 1; have hfz61_2 := blk_frozen BK7035.out 2; obtain ⟨Ao62, co62, eo62⟩ := Kd.R_slice HO7031.out; subst eo62; obtain ⟨Ao63, co63, eo63⟩ := Kd.R_slice HO7034.out; subst eo63; have hcz64_0 : w57.cell? ⟨gb7027, 0, none⟩ = some (.int .i64 t7020) := (blk_cell BK7027.out 0).trans rfl; have hcz64_1 : w57.cell? ⟨gb7027, 1, none⟩ = some (.slice Ao53 t7021.length co53) := (blk_cell BK7027.out 1).trans rfl; have hcz64_2 : w57.cell? ⟨gb7027, 2, none⟩ = some (.slice Ao54 t7024.length co54) := (blk_cell BK7027.out 2).trans rfl; have hfz64_0 := blk_frozen BK7027.out 0; have hfz64_1 := blk_frozen BK7027.out 1; have hfz64_2 := blk_frozen BK7027.out 2) | ((with_reducible refine gate_callee (f := 29) rfl ?_); refine goesL_ (some 31) rfl rfl Try.func29 (by kernel_rfl) rfl #[.agg #[.int .i64 t7020, .slice Ao53 t7021.length co53, .slice Ao54 t7024.length co54], .agg #[.int .i64 t7028, .slice Ao62 t7029.length co62, .slice Ao63 t7032.length co63]] rfl (by (try simp only [List.map_toArray, List.map_cons, List.map_nil]); first | done | rfl | (simp only [List.length_drop, List.length_take]; rfl)) ?_; (with_reducible refine (impl_SameStates.calls k t7020 _ _ t7021 _ _ t7024 t7028 _ _ t7029 _ _ t7032 t7036 _ ?side1 ?side2 ?side3 ?side4 ?side5 ?side6 ?side7 ?side8 A24.out).mono ?_); (case side1 => refine (Kd.R_reads' (e := 3) (base := w.heap.size) (ok := fun k_ => ((((((some k_ ≠ (.slice Ao54 t7024.length co54 : Value).ownBlock ∧ some k_ ≠ (.slice Ao42 t7006.length co42 : Value).ownBlock) ∧ some k_ ≠ (.slice Ao43 t7009.length co43 : Value).ownBlock) ∧ some k_ ≠ (.slice Ao44 t7013.length co44 : Value).ownBlock) ∧ some k_ ≠ (.slice Ao45 t7016.length co45 : Value).ownBlock) ∧ some k_ ≠ (.slice Ao62 t7029.length co62 : Value).ownBlock) ∧ some k_ ≠ (.slice Ao63 t7032.length co63 : Value).ownBlock)) (n := t7021.length) (c := co53) ?_).2.2; exact (by (with_reducible repeat (first | apply Kd.R_alloc | apply Kd.R_drewN | apply Kd.R_drew)); exact (Kd.R_mono (Kd.R_far (p := ⟨gb7035, 2, none⟩) (Kd.R_far (p := ⟨gb7035, 1, none⟩) (Kd.R_far (p := ⟨gb7035, 0, none⟩) (Kd.R_types HO7023.out BK7035.out (by decide)) (fun _ hk => hk.2) (.int .i64 t7028)) (fun _ hk => hk.2) (.slice Ao62 t7029.length co62)) (fun _ hk => hk.2) (.slice Ao63 t7032.length co63)) (fun _ h_ => h_.1)))); (case side2 => exact (Kd.R_reads' HO7023.out).2.1); (case side3 => refine (Kd.R_reads' (e := 3) (base := w.heap.size) (ok := fun k_ => ((((((some k_ ≠ (.slice Ao53 t7021.length co53 : Value).ownBlock ∧ some k_ ≠ (.slice Ao42 t7006.length co42 : Value).ownBlock) ∧ some k_ ≠ (.slice Ao43 t7009.length co43 : Value).ownBlock) ∧ some k_ ≠ (.slice Ao44 t7013.length co44 : Value).ownBlock) ∧ some k_ ≠ (.slice Ao45 t7016.length co45 : Value).ownBlock) ∧ some k_ ≠ (.slice Ao62 t7029.length co62 : Value).ownBlock) ∧ some k_ ≠ (.slice Ao63 t7032.length co63 : Value).ownBlock)) (n := t7024.length) (c := co54) ?_).2.2; exact (by (with_reducible repeat (first | apply Kd.R_alloc | apply Kd.R_drewN | apply Kd.R_drew)); exact (Kd.R_mono (Kd.R_far (p := ⟨gb7035, 2, none⟩) (Kd.R_far (p := ⟨gb7035, 1, none⟩) (Kd.R_far (p := ⟨gb7035, 0, none⟩) (Kd.R_types HO7026.out BK7035.out (by decide)) (fun _ hk => hk.2) (.int .i64 t7028)) (fun _ hk => hk.2) (.slice Ao62 t7029.length co62)) (fun _ hk => hk.2) (.slice Ao63 t7032.length co63)) (fun _ h_ => h_.1)))); (case side4 => exact (Kd.R_reads' HO7026.out).2.1); (case side5 => refine (Kd.R_reads' (e := 3) (base := w.heap.size) (ok := fun k_ => ((((((some k_ ≠ (.slice Ao63 t7032.length co63 : Value).ownBlock ∧ some k_ ≠ (.slice Ao42 t7006.length co42 : Value).ownBlock) ∧ some k_ ≠ (.slice Ao43 t7009.length co43 : Value).ownBlock) ∧ some k_ ≠ (.slice Ao44 t7013.length co44 : Value).ownBlock) ∧ some k_ ≠ (.slice Ao45 t7016.length co45 : Value).ownBlock) ∧ some k_ ≠ (.slice Ao53 t7021.length co53 : Value).ownBlock) ∧ some k_ ≠ (.slice Ao54 t7024.length co54 : Value).ownBlock)) (n := t7029.length) (c := co62) ?_).2.2; exact (by (with_reducible repeat (first | apply Kd.R_alloc | apply Kd.R_drewN | apply Kd.R_drew)); exact (Kd.R_mono (Kd.R_far (p := ⟨gb7035, 2, none⟩) (Kd.R_far (p := ⟨gb7035, 1, none⟩) (Kd.R_far (p := ⟨gb7035, 0, none⟩) (Kd.R_types HO7031.out BK7035.out (by decide)) (fun _ hk => hk.2) (.int .i64 t7028)) (fun _ hk => hk.2) (.slice Ao62 t7029.length co62)) (fun _ hk => hk.2) (.slice Ao63 t7032.length co63)) (fun _ h_ => h_.1)))); (case side6 => exact (Kd.R_reads' HO7031.out).2.1); (case side7 => refine (Kd.R_reads' (e := 3) (base := w.heap.size) (ok := fun k_ => ((((((some k_ ≠ (.slice Ao62 t7029.length co62 : Value).ownBlock ∧ some k_ ≠ (.slice Ao42 t7006.length co42 : Value).ownBlock) ∧ some k_ ≠ (.slice Ao43 t7009.length co43 : Value).ownBlock) ∧ some k_ ≠ (.slice Ao44 t7013.length co44 : Value).ownBlock) ∧ some k_ ≠ (.slice Ao45 t7016.length co45 : Value).ownBlock) ∧ some k_ ≠ (.slice Ao53 t7021.length co53 : Value).ownBlock) ∧ some k_ ≠ (.slice Ao54 t7024.length co54 : Value).ownBlock)) (n := t7032.length) (c := co63) ?_).2.2; exact (by (with_reducible repeat (first | apply Kd.R_alloc | apply Kd.R_drewN | apply Kd.R_drew)); exact (Kd.R_mono (Kd.R_far (p := ⟨gb7035, 2, none⟩) (Kd.R_far (p := ⟨gb7035, 1, none⟩) (Kd.R_far (p := ⟨gb7035, 0, none⟩) (Kd.R_types HO7034.out BK7035.out (by decide)) (fun _ hk => hk.2) (.int .i64 t7028)) (fun _ hk => hk.2) (.slice Ao62 t7029.length co62)) (fun _ hk => hk.2) (.slice Ao63 t7032.length co63)) (fun _ h_ => h_.1)))); (case side8 => exact (Kd.R_reads' HO7034.out).2.1); rintro e w65 ⟨rfl, hb⟩; refine ⟨_, rfl, ?_⟩; have n0_ := Aside0.mk (Kd.R_below (by (with_reducible repeat (first | apply Kd.R_alloc | apply Kd.R_drewN | apply Kd.R_drew)); exact (Kd.R_mono (Kd.R_far (p := ⟨gb7035, 2, none⟩) (Kd.R_far (p := ⟨gb7035, 1, none⟩) (Kd.R_far (p := ⟨gb7035, 0, none⟩) (Kd.R_types HO7008.out BK7035.out (by decide)) (fun _ hk => hk.2) (.int .i64 t7028)) (fun _ hk => hk.2) (.slice Ao62 t7029.length co62)) (fun _ hk => hk.2) (.slice Ao63 t7032.length co63)) (fun _ h_ => h_.1))) hb); have n1_ := Aside0.mk (Kd.R_below (by (with_reducible repeat (first | apply Kd.R_alloc | apply Kd.R_drewN | apply Kd.R_drew)); exact (Kd.R_mono (Kd.R_far (p := ⟨gb7035, 2, none⟩) (Kd.R_far (p := ⟨gb7035, 1, none⟩) (Kd.R_far (p := ⟨gb7035, 0, none⟩) (Kd.R_types HO7011.out BK7035.out (by decide)) (fun _ hk => hk.2) (.int .i64 t7028)) (fun _ hk => hk.2) (.slice Ao62 t7029.length co62)) (fun _ hk => hk.2) (.slice Ao63 t7032.length co63)) (fun _ h_ => h_.1))) hb); have n2_ := Aside0.mk (Kd.R_below (by (with_reducible repeat (first | apply Kd.R_alloc | apply Kd.R_drewN | apply Kd.R_drew)); exact (Kd.R_mono (Kd.R_far (p := ⟨gb7035, 2, none⟩) (Kd.R_far (p := ⟨gb7035, 1, none⟩) (Kd.R_far (p := ⟨gb7035, 0, none⟩) (Kd.R_types HO7015.out BK7035.out (by decide)) (fun _ hk => hk.2) (.int .i64 t7028)) (fun _ hk => hk.2) (.slice Ao62 t7029.length co62)) (fun _ hk => hk.2) (.slice Ao63 t7032.length co63)) (fun _ h_ => h_.1))) hb); have n3_ := Aside0.mk (Kd.R_below (by (with_reducible repeat (first | apply Kd.R_alloc | apply Kd.R_drewN | apply Kd.R_drew)); exact (Kd.R_mono (Kd.R_far (p := ⟨gb7035, 2, none⟩) (Kd.R_far (p := ⟨gb7035, 1, none⟩) (Kd.R_far (p := ⟨gb7035, 0, none⟩) (Kd.R_types HO7018.out BK7035.out (by decide)) (fun _ hk => hk.2) (.int .i64 t7028)) (fun _ hk => hk.2) (.slice Ao62 t7029.length co62)) (fun _ hk => hk.2) (.slice Ao63 t7032.length co63)) (fun _ h_ => h_.1))) hb); have n4_ := Aside0.mk (Kd.R_below (by (with_reducible repeat (first | apply Kd.R_alloc | apply Kd.R_drewN | apply Kd.R_drew)); exact (Kd.R_mono (Kd.R_far (p := ⟨gb7035, 2, none⟩) (Kd.R_far (p := ⟨gb7035, 1, none⟩) (Kd.R_far (p := ⟨gb7035, 0, none⟩) (Kd.R_types HO7023.out BK7035.out (by decide)) (fun _ hk => hk.2) (.int .i64 t7028)) (fun _ hk => hk.2) (.slice Ao62 t7029.length co62)) (fun _ hk => hk.2) (.slice Ao63 t7032.length co63)) (fun _ h_ => h_.1))) hb); have n5_ := Aside0.mk (Kd.R_below (by (with_reducible repeat (first | apply Kd.R_alloc | apply Kd.R_drewN | apply Kd.R_drew)); exact (Kd.R_mono (Kd.R_far (p := ⟨gb7035, 2, none⟩) (Kd.R_far (p := ⟨gb7035, 1, none⟩) (Kd.R_far (p := ⟨gb7035, 0, none⟩) (Kd.R_types HO7026.out BK7035.out (by decide)) (fun _ hk => hk.2) (.int .i64 t7028)) (fun _ hk => hk.2) (.slice Ao62 t7029.length co62)) (fun _ hk => hk.2) (.slice Ao63 t7032.length co63)) (fun _ h_ => h_.1))) hb); have n6_ := Aside0.mk (Kd.R_below (by (with_reducible repeat (first | apply Kd.R_alloc | apply Kd.R_drewN | apply Kd.R_drew)); exact (Kd.R_mono (Kd.R_far (p := ⟨gb7035, 2, none⟩) (Kd.R_far (p := ⟨gb7035, 1, none⟩) (Kd.R_far (p := ⟨gb7035, 0, none⟩) (Kd.R_types HO7031.out BK7035.out (by decide)) (fun _ hk => hk.2) (.int .i64 t7028)) (fun _ hk => hk.2) (.slice Ao62 t7029.length co62)) (fun _ hk => hk.2) (.slice Ao63 t7032.length co63)) (fun _ h_ => h_.1))) hb); have n7_ := Aside0.mk (Kd.R_below (by (with_reducible repeat (first | apply Kd.R_alloc | apply Kd.R_drewN | apply Kd.R_drew)); exact (Kd.R_mono (Kd.R_far (p := ⟨gb7035, 2, none⟩) (Kd.R_far (p := ⟨gb7035, 1, none⟩) (Kd.R_far (p := ⟨gb7035, 0, none⟩) (Kd.R_types HO7034.out BK7035.out (by decide)) (fun _ hk => hk.2) (.int .i64 t7028)) (fun _ hk => hk.2) (.slice Ao62 t7029.length co62)) (fun _ hk => hk.2) (.slice Ao63 t7032.length co63)) (fun _ h_ => h_.1))) hb); have n8_ := Aside0.mk (blk_below (g := gb7001) (o := .cells #[.int .i64 a0_0, .slice A0_1 l0_1.length c0_1, .slice A0_2 l0_2.length c0_2] 31 (0, 0)) (by (with_reducible repeat (first | refine blk_drewN ?_ _ | refine blk_drew ?_ | refine blk_alloc ?_ _)); refine blk_far ?_ NB7001_7035.out _; (with_reducible repeat (first | refine blk_drewN ?_ _ | refine blk_drew ?_ | refine blk_alloc ?_ _)); refine blk_far ?_ NB7001_7035.out _; (with_reducible repeat (first | refine blk_drewN ?_ _ | refine blk_drew ?_ | refine blk_alloc ?_ _)); refine blk_far ?_ NB7001_7035.out _; (with_reducible repeat (first | refine blk_drewN ?_ _ | refine blk_drew ?_ | refine blk_alloc ?_ _)); exact BK7001.out) hb); have n9_ := Aside0.mk (blk_below (g := gb7002) (o := .cells #[.int .i64 a1_0, .slice A1_1 l1_1.length c1_1, .slice A1_2 l1_2.length c1_2] 31 (0, 0)) (by (with_reducible repeat (first | refine blk_drewN ?_ _ | refine blk_drew ?_ | refine blk_alloc ?_ _)); refine blk_far ?_ NB7002_7035.out _; (with_reducible repeat (first | refine blk_drewN ?_ _ | refine blk_drew ?_ | refine blk_alloc ?_ _)); refine blk_far ?_ NB7002_7035.out _; (with_reducible repeat (first | refine blk_drewN ?_ _ | refine blk_drew ?_ | refine blk_alloc ?_ _)); refine blk_far ?_ NB7002_7035.out _; (with_reducible repeat (first | refine blk_drewN ?_ _ | refine blk_drew ?_ | refine blk_alloc ?_ _)); exact BK7002.out) hb); have n10_ := Aside0.mk (blk_below (g := gb7027) (o := .cells #[.int .i64 t7020, .slice Ao53 t7021.length co53, .slice Ao54 t7024.length co54] 34 (0, 0)) (by (with_reducible repeat (first | refine blk_drewN ?_ _ | refine blk_drew ?_ | refine blk_alloc ?_ _)); refine blk_far ?_ NB7027_7035.out _; (with_reducible repeat (first | refine blk_drewN ?_ _ | refine blk_drew ?_ | refine blk_alloc ?_ _)); refine blk_far ?_ NB7027_7035.out _; (with_reducible repeat (first | refine blk_drewN ?_ _ | refine blk_drew ?_ | refine blk_alloc ?_ _)); refine blk_far ?_ NB7027_7035.out _; (with_reducible repeat (first | refine blk_drewN ?_ _ | refine blk_drew ?_ | refine blk_alloc ?_ _)); exact BK7027.out) hb); have n11_ := Aside0.mk (blk_below (g := gb7035) (o := .cells #[.int .i64 t7028, .slice Ao62 t7029.length co62, .slice Ao63 t7032.length co63] 34 (0, 0)) (by (with_reducible repeat (first | refine blk_drewN ?_ _ | refine blk_drew ?_ | refine blk_alloc ?_ _)); refine blk_put (cs := #[.int .i64 t7028, .slice Ao62 t7029.length co62, .slice none 0 0]) ?_ 2 _ rfl; (with_reducible repeat (first | refine blk_drewN ?_ _ | refine blk_drew ?_ | refine blk_alloc ?_ _)); refine blk_put (cs := #[.int .i64 t7028, .slice none 0 0, .slice none 0 0]) ?_ 1 _ rfl; (with_reducible repeat (first | refine blk_drewN ?_ _ | refine blk_drew ?_ | refine blk_alloc ?_ _)); refine blk_put (cs := #[.int .i64 0, .slice none 0 0, .slice none 0 0]) ?_ 0 _ rfl; (with_reducible repeat (first | refine blk_drewN ?_ _ | refine blk_drew ?_ | refine blk_alloc ?_ _)); exact BK7035.out) hb); have n12_ := Aside0.mk (below_step (by repeat (first | (with_reducible first | exact HB.out | apply below_alloc | apply pw_below_drewN | apply below_drew1 | refine below_set ?_ GE7001.out | refine below_set ?_ GE7002.out | refine below_set ?_ GE7027.out | refine below_set ?_ GE7035.out) | exact HB.out)) hb); clear HO7008; clear HO7011; clear HO7015; clear HO7018; clear HO7023; clear HO7026; clear HO7031; clear HO7034; clear BK7001; clear BK7002; clear BK7027; clear BK7035; clear HB; have HO7008 := n0_; have HO7011 := n1_; have HO7015 := n2_; have HO7018 := n3_; have HO7023 := n4_; have HO7026 := n5_; have HO7031 := n6_; have HO7034 := n7_; have BK7001 := n8_; have BK7002 := n9_; have BK7027 := n10_; have BK7035 := n11_; have HB := n12_; clear n0_ n1_ n2_ n3_ n4_ n5_ n6_ n7_ n8_ n9_ n10_ n11_ n12_; (try clear hb); (try clear hb2); (try clear hk); (try clear hi)))
            have n0_ := Aside0.mk (Kd.R_drew HO7008.out)
            have n1_ := Aside0.mk (Kd.R_drew HO7011.out)
            have n2_ := Aside0.mk (Kd.R_drew HO7015.out)
            have n3_ := Aside0.mk (Kd.R_drew HO7018.out)
            have n4_ := Aside0.mk (Kd.R_drew HO7023.out)
            have n5_ := Aside0.mk (Kd.R_drew HO7026.out)
            have n6_ := Aside0.mk (Kd.R_drew HO7031.out)
            have n7_ := Aside0.mk (Kd.R_drew HO7034.out)
            have n8_ := Aside0.mk (blk_drew BK7001.out)
            have n9_ := Aside0.mk (blk_drew BK7002.out)
            have n10_ := Aside0.mk (blk_drew BK7027.out)
            have n11_ := Aside0.mk (blk_drew BK7035.out)
            have n12_ := Aside0.mk (below_drew1 HB.out)
            clear HO7008
            clear HO7011
            clear HO7015
            clear HO7018
            clear HO7023
            clear HO7026
            clear HO7031
            clear HO7034
            clear BK7001
            clear BK7002
            clear BK7027
            clear BK7035
            clear HB
            have HO7008 := n0_
            have HO7011 := n1_
            have HO7015 := n2_
            have HO7018 := n3_
            have HO7023 := n4_
            have HO7026 := n5_
            have HO7031 := n6_
            have HO7034 := n7_
            have BK7001 := n8_
            have BK7002 := n9_
            have BK7027 := n10_
            have BK7035 := n11_
            have HB := n12_
            clear n0_ n1_ n2_ n3_ n4_ n5_ n6_ n7_ n8_ n9_ n10_ n11_ n12_
            refine start_ (n := 5) (S := fun w' => w'.cell? ⟨gb7027, 0, none⟩ = some (.int .i64 t7020) ∧ w'.cell? ⟨gb7027, 1, none⟩ = some (.slice Ao53 t7021.length co53) ∧ w'.cell? ⟨gb7027, 2, none⟩ = some (.slice Ao54 t7024.length co54) ∧ w'.cell? ⟨gb7001, 0, none⟩ = some (.int .i64 a0_0) ∧ w'.cell? ⟨gb7001, 1, none⟩ = some (.slice A0_1 l0_1.length c0_1) ∧ w'.cell? ⟨gb7001, 2, none⟩ = some (.slice A0_2 l0_2.length c0_2)) (ds := []) #[false, false, false, false, false] (by kernel_rfl) rfl rfl ⟨(blk_cell BK7027.out 0).trans rfl, (blk_cell BK7027.out 1).trans rfl, (blk_cell BK7027.out 2).trans rfl, (blk_cell BK7001.out 0).trans rfl, (blk_cell BK7001.out 1).trans rfl, (blk_cell BK7001.out 2).trans rfl⟩ (fun hHeld => ?_)
            generalize w65.drew = w66 at HO7008 HO7011 HO7015 HO7018 HO7023 HO7026 HO7031 HO7034 BK7001 BK7002 BK7027 BK7035 HB hHeld ⊢
            refine take_ (i := 0) (N := some 35) (v := ?_) (a' := ?_) #[true, false, false, false, false] rfl rfl (by kernel_rfl) (fun _ _ _ h => h) (Or.inl ⟨by rfl, ?_⟩) hHeld ?_ ?_
            rotate_left
            · rintro w' ⟨s0, s1, s2, s3, s4, s5⟩
              go_simp
              with_reducible rfl
            rotate_left
            · simp only [Act.put, List.setIfInBounds_toArray, List.set_cons_zero, List.set_cons_succ, i64_w, i32_w]
              rfl
            refine take_ (i := 1) (N := some 36) (v := ?_) (a' := ?_) #[true, true, false, false, false] rfl rfl (by kernel_rfl) (fun _ _ _ h => h) (Or.inl ⟨by rfl, ?_⟩) hHeld ?_ ?_
            rotate_left
            · rintro w' ⟨s0, s1, s2, s3, s4, s5⟩
              go_simp
              with_reducible rfl
            rotate_left
            · simp only [Act.put, List.setIfInBounds_toArray, List.set_cons_zero, List.set_cons_succ, i64_w, i32_w]
              rfl
            refine one_ (i := 2) (N := some 37) #[true, true, true, false, false] rfl rfl (by kernel_rfl) (by decide) (fun K hK => ?_)
            refine goes_ Try.func28 (by kernel_rfl) rfl #[.agg #[.int .i64 a0_0, .slice A0_1 l0_1.length c0_1, .slice A0_2 l0_2.length c0_2]] (by rfl) rfl rfl (by (try simp only [List.map_toArray, List.map_cons, List.map_nil]); first | done | rfl | (simp only [List.length_drop, List.length_take]; rfl)) ?_
            with_reducible refine (laws_toState.calls k a0_0 _ _ l0_1 _ _ l0_2 t7037 t7038 t7041 _ ?side1 ?side2 ?side3 ?side4 A26.out).mono ?_
            (case side1 => repeat (first | exact (Kd.C_below HR0_1.out HB.out) | (with_reducible refine Kd.C_alloc ?_ _) | (with_reducible refine Kd.C_drewN ?_ _) | (with_reducible refine Kd.C_drew ?_)))
            (case side2 => exact HC0_1.out)
            (case side3 => repeat (first | exact (Kd.C_below HR0_2.out HB.out) | (with_reducible refine Kd.C_alloc ?_ _) | (with_reducible refine Kd.C_drewN ?_ _) | (with_reducible refine Kd.C_drew ?_)))
            (case side4 => exact HC0_2.out)
            rintro e w67 ⟨v7039, v7042, rfl, ho0, ho1, hb⟩
            refine ⟨_, rfl, ?_⟩
            have n0_ := Aside0.mk (Kd.R_mono (Kd.R_told (Kd.R_told (Kd.R_old (by (with_reducible repeat (first | apply Kd.R_alloc | apply Kd.R_drewN | apply Kd.R_drew)); exact HO7008.out) hb) (Kd.R_base ho0)) (Kd.R_base ho1)) (fun _ h_ => h_.1))
            have n1_ := Aside0.mk (Kd.R_mono (Kd.R_told (Kd.R_told (Kd.R_old (by (with_reducible repeat (first | apply Kd.R_alloc | apply Kd.R_drewN | apply Kd.R_drew)); exact HO7011.out) hb) (Kd.R_base ho0)) (Kd.R_base ho1)) (fun _ h_ => h_.1))
            have n2_ := Aside0.mk (Kd.R_mono (Kd.R_told (Kd.R_told (Kd.R_old (by (with_reducible repeat (first | apply Kd.R_alloc | apply Kd.R_drewN | apply Kd.R_drew)); exact HO7015.out) hb) (Kd.R_base ho0)) (Kd.R_base ho1)) (fun _ h_ => h_.1))
            have n3_ := Aside0.mk (Kd.R_mono (Kd.R_told (Kd.R_told (Kd.R_old (by (with_reducible repeat (first | apply Kd.R_alloc | apply Kd.R_drewN | apply Kd.R_drew)); exact HO7018.out) hb) (Kd.R_base ho0)) (Kd.R_base ho1)) (fun _ h_ => h_.1))
            have n4_ := Aside0.mk (Kd.R_mono (Kd.R_told (Kd.R_told (Kd.R_old (by (with_reducible repeat (first | apply Kd.R_alloc | apply Kd.R_drewN | apply Kd.R_drew)); exact HO7023.out) hb) (Kd.R_base ho0)) (Kd.R_base ho1)) (fun _ h_ => h_.1))
            have n5_ := Aside0.mk (Kd.R_mono (Kd.R_told (Kd.R_told (Kd.R_old (by (with_reducible repeat (first | apply Kd.R_alloc | apply Kd.R_drewN | apply Kd.R_drew)); exact HO7026.out) hb) (Kd.R_base ho0)) (Kd.R_base ho1)) (fun _ h_ => h_.1))
            have n6_ := Aside0.mk (Kd.R_mono (Kd.R_told (Kd.R_told (Kd.R_old (by (with_reducible repeat (first | apply Kd.R_alloc | apply Kd.R_drewN | apply Kd.R_drew)); exact HO7031.out) hb) (Kd.R_base ho0)) (Kd.R_base ho1)) (fun _ h_ => h_.1))
            have n7_ := Aside0.mk (Kd.R_mono (Kd.R_told (Kd.R_told (Kd.R_old (by (with_reducible repeat (first | apply Kd.R_alloc | apply Kd.R_drewN | apply Kd.R_drew)); exact HO7034.out) hb) (Kd.R_base ho0)) (Kd.R_base ho1)) (fun _ h_ => h_.1))
            have n8_ := Aside0.mk (Kd.R_lower (Kd.R_new' (Kd.R_new' (Kd.R_new' (Kd.R_new' (Kd.R_new' (Kd.R_new' (Kd.R_new' (Kd.R_new' ho0 (Kd.R_lt (by (with_reducible repeat (first | apply Kd.R_alloc | apply Kd.R_drewN | apply Kd.R_drew)); exact HO7008.out))) (Kd.R_lt (by (with_reducible repeat (first | apply Kd.R_alloc | apply Kd.R_drewN | apply Kd.R_drew)); exact HO7011.out))) (Kd.R_lt (by (with_reducible repeat (first | apply Kd.R_alloc | apply Kd.R_drewN | apply Kd.R_drew)); exact HO7015.out))) (Kd.R_lt (by (with_reducible repeat (first | apply Kd.R_alloc | apply Kd.R_drewN | apply Kd.R_drew)); exact HO7018.out))) (Kd.R_lt (by (with_reducible repeat (first | apply Kd.R_alloc | apply Kd.R_drewN | apply Kd.R_drew)); exact HO7023.out))) (Kd.R_lt (by (with_reducible repeat (first | apply Kd.R_alloc | apply Kd.R_drewN | apply Kd.R_drew)); exact HO7026.out))) (Kd.R_lt (by (with_reducible repeat (first | apply Kd.R_alloc | apply Kd.R_drewN | apply Kd.R_drew)); exact HO7031.out))) (Kd.R_lt (by (with_reducible repeat (first | apply Kd.R_alloc | apply Kd.R_drewN | apply Kd.R_drew)); exact HO7034.out))) (below_size (by repeat (first | (with_reducible first | exact HB.out | apply below_alloc | apply pw_below_drewN | apply below_drew1 | refine below_set ?_ GE7001.out | refine below_set ?_ GE7002.out | refine below_set ?_ GE7027.out | refine below_set ?_ GE7035.out) | exact HB.out))))
            have n9_ := Aside0.mk (Kd.R_lower (Kd.R_new' (Kd.R_new' (Kd.R_new' (Kd.R_new' (Kd.R_new' (Kd.R_new' (Kd.R_new' (Kd.R_new' ho1 (Kd.R_lt (by (with_reducible repeat (first | apply Kd.R_alloc | apply Kd.R_drewN | apply Kd.R_drew)); exact HO7008.out))) (Kd.R_lt (by (with_reducible repeat (first | apply Kd.R_alloc | apply Kd.R_drewN | apply Kd.R_drew)); exact HO7011.out))) (Kd.R_lt (by (with_reducible repeat (first | apply Kd.R_alloc | apply Kd.R_drewN | apply Kd.R_drew)); exact HO7015.out))) (Kd.R_lt (by (with_reducible repeat (first | apply Kd.R_alloc | apply Kd.R_drewN | apply Kd.R_drew)); exact HO7018.out))) (Kd.R_lt (by (with_reducible repeat (first | apply Kd.R_alloc | apply Kd.R_drewN | apply Kd.R_drew)); exact HO7023.out))) (Kd.R_lt (by (with_reducible repeat (first | apply Kd.R_alloc | apply Kd.R_drewN | apply Kd.R_drew)); exact HO7026.out))) (Kd.R_lt (by (with_reducible repeat (first | apply Kd.R_alloc | apply Kd.R_drewN | apply Kd.R_drew)); exact HO7031.out))) (Kd.R_lt (by (with_reducible repeat (first | apply Kd.R_alloc | apply Kd.R_drewN | apply Kd.R_drew)); exact HO7034.out))) (below_size (by repeat (first | (with_reducible first | exact HB.out | apply below_alloc | apply pw_below_drewN | apply below_drew1 | refine below_set ?_ GE7001.out | refine below_set ?_ GE7002.out | refine below_set ?_ GE7027.out | refine below_set ?_ GE7035.out) | exact HB.out))))
            have n10_ := Aside0.mk (blk_below (g := gb7001) (o := .cells #[.int .i64 a0_0, .slice A0_1 l0_1.length c0_1, .slice A0_2 l0_2.length c0_2] 31 (0, 0)) (by (with_reducible repeat (first | refine blk_drewN ?_ _ | refine blk_drew ?_ | refine blk_alloc ?_ _)); exact BK7001.out) hb)
            have n11_ := Aside0.mk (blk_below (g := gb7002) (o := .cells #[.int .i64 a1_0, .slice A1_1 l1_1.length c1_1, .slice A1_2 l1_2.length c1_2] 31 (0, 0)) (by (with_reducible repeat (first | refine blk_drewN ?_ _ | refine blk_drew ?_ | refine blk_alloc ?_ _)); exact BK7002.out) hb)
            have n12_ := Aside0.mk (blk_below (g := gb7027) (o := .cells #[.int .i64 t7020, .slice Ao53 t7021.length co53, .slice Ao54 t7024.length co54] 34 (0, 0)) (by (with_reducible repeat (first | refine blk_drewN ?_ _ | refine blk_drew ?_ | refine blk_alloc ?_ _)); exact BK7027.out) hb)
            have n13_ := Aside0.mk (blk_below (g := gb7035) (o := .cells #[.int .i64 t7028, .slice Ao62 t7029.length co62, .slice Ao63 t7032.length co63] 34 (0, 0)) (by (with_reducible repeat (first | refine blk_drewN ?_ _ | refine blk_drew ?_ | refine blk_alloc ?_ _)); exact BK7035.out) hb)
            have n14_ := Aside0.mk (below_step (by repeat (first | (with_reducible first | exact HB.out | apply below_alloc | apply pw_below_drewN | apply below_drew1 | refine below_set ?_ GE7001.out | refine below_set ?_ GE7002.out | refine below_set ?_ GE7027.out | refine below_set ?_ GE7035.out) | exact HB.out)) hb)
            clear HO7008
            clear HO7011
            clear HO7015
            clear HO7018
            clear HO7023
            clear HO7026
            clear HO7031
            clear HO7034
            clear BK7001
            clear BK7002
            clear BK7027
            clear BK7035
            clear HB
            have HO7008 := n0_
            have HO7011 := n1_
            have HO7015 := n2_
            have HO7018 := n3_
            have HO7023 := n4_
            have HO7026 := n5_
            have HO7031 := n6_
            have HO7034 := n7_
            have HO7040 := n8_
            have HO7043 := n9_
            have BK7001 := n10_
            have BK7002 := n11_
            have BK7027 := n12_
            have BK7035 := n13_
            have HB := n14_
            clear n0_ n1_ n2_ n3_ n4_ n5_ n6_ n7_ n8_ n9_ n10_ n11_ n12_ n13_ n14_
            (try clear hb)
            (try clear hb2)
            (try clear hk)
            (try clear hi)
            (try clear ho0)
            (try clear ho1)
            obtain ⟨Ao68, co68, eo68⟩ := Kd.R_slice HO7040.out
            (first | subst eo68 | (injection eo68 with f1_ f2_ f3_; have f4_ := f1_.symm; have f5_ := f3_.symm; clear f1_ f2_ f3_; subst f4_; subst f5_))
            obtain ⟨Ao69, co69, eo69⟩ := Kd.R_slice HO7043.out
            (first | subst eo69 | (injection eo69 with f1_ f2_ f3_; have f4_ := f1_.symm; have f5_ := f3_.symm; clear f1_ f2_ f3_; subst f4_; subst f5_))
            refine hK.out _ _ ⟨(blk_cell BK7027.out 0).trans rfl, (blk_cell BK7027.out 1).trans rfl, (blk_cell BK7027.out 2).trans rfl, (blk_cell BK7001.out 0).trans rfl, (blk_cell BK7001.out 1).trans rfl, (blk_cell BK7001.out 2).trans rfl⟩ (fun hHeld => ?_)
            clear hK K
            refine norm_ (a' := ?_) ?_ ?_
            rotate_left
            · show Act.put _ (some 37) _ = _
              simp only [Act.put, List.setIfInBounds_toArray, List.set_cons_zero, List.set_cons_succ, i64_w, i32_w]
              rfl
            refine one_ (i := 3) (N := some 38) #[true, true, true, true, false] rfl rfl (by kernel_rfl) (by decide) (fun K hK => ?_)
            refine goes_ Try.func30 (by kernel_rfl) rfl #[.agg #[.int .i64 t7020, .slice Ao53 t7021.length co53, .slice Ao54 t7024.length co54], .agg #[.int .i64 t7037, .slice Ao68 t7038.length co68, .slice Ao69 t7041.length co69]] (by rfl) rfl rfl (by (try simp only [List.map_toArray, List.map_cons, List.map_nil]); first | done | rfl | (simp only [List.length_drop, List.length_take]; rfl)) ?_
            with_reducible refine (laws_eqState.calls k t7020 _ _ t7021 _ _ t7024 t7037 _ _ t7038 _ _ t7041 true _ ?side1 ?side2 ?side3 ?side4 ?side5 ?side6 ?side7 ?side8 A27.out).mono ?_
            (case side1 => repeat (first | exact (Kd.R_reads' HO7023.out).2.2 | (with_reducible refine Kd.C_alloc ?_ _) | (with_reducible refine Kd.C_drewN ?_ _) | (with_reducible refine Kd.C_drew ?_)))
            (case side2 => exact (Kd.R_reads' HO7023.out).2.1)
            (case side3 => repeat (first | exact (Kd.R_reads' HO7026.out).2.2 | (with_reducible refine Kd.C_alloc ?_ _) | (with_reducible refine Kd.C_drewN ?_ _) | (with_reducible refine Kd.C_drew ?_)))
            (case side4 => exact (Kd.R_reads' HO7026.out).2.1)
            (case side5 => repeat (first | exact (Kd.R_reads' HO7040.out).2.2 | (with_reducible refine Kd.C_alloc ?_ _) | (with_reducible refine Kd.C_drewN ?_ _) | (with_reducible refine Kd.C_drew ?_)))
            (case side6 => exact (Kd.R_reads' HO7040.out).2.1)
            (case side7 => repeat (first | exact (Kd.R_reads' HO7043.out).2.2 | (with_reducible refine Kd.C_alloc ?_ _) | (with_reducible refine Kd.C_drewN ?_ _) | (with_reducible refine Kd.C_drew ?_)))
            (case side8 => exact (Kd.R_reads' HO7043.out).2.1)
            rintro e w70 ⟨rfl, hb⟩
            refine ⟨_, rfl, ?_⟩
            have n0_ := Aside0.mk (Kd.R_below (by (with_reducible repeat (first | apply Kd.R_alloc | apply Kd.R_drewN | apply Kd.R_drew)); exact HO7008.out) hb)
            have n1_ := Aside0.mk (Kd.R_below (by (with_reducible repeat (first | apply Kd.R_alloc | apply Kd.R_drewN | apply Kd.R_drew)); exact HO7011.out) hb)
            have n2_ := Aside0.mk (Kd.R_below (by (with_reducible repeat (first | apply Kd.R_alloc | apply Kd.R_drewN | apply Kd.R_drew)); exact HO7015.out) hb)
            have n3_ := Aside0.mk (Kd.R_below (by (with_reducible repeat (first | apply Kd.R_alloc | apply Kd.R_drewN | apply Kd.R_drew)); exact HO7018.out) hb)
            have n4_ := Aside0.mk (Kd.R_below (by (with_reducible repeat (first | apply Kd.R_alloc | apply Kd.R_drewN | apply Kd.R_drew)); exact HO7023.out) hb)
            have n5_ := Aside0.mk (Kd.R_below (by (with_reducible repeat (first | apply Kd.R_alloc | apply Kd.R_drewN | apply Kd.R_drew)); exact HO7026.out) hb)
            have n6_ := Aside0.mk (Kd.R_below (by (with_reducible repeat (first | apply Kd.R_alloc | apply Kd.R_drewN | apply Kd.R_drew)); exact HO7031.out) hb)
            have n7_ := Aside0.mk (Kd.R_below (by (with_reducible repeat (first | apply Kd.R_alloc | apply Kd.R_drewN | apply Kd.R_drew)); exact HO7034.out) hb)
            have n8_ := Aside0.mk (Kd.R_below (by (with_reducible repeat (first | apply Kd.R_alloc | apply Kd.R_drewN | apply Kd.R_drew)); exact HO7040.out) hb)
            have n9_ := Aside0.mk (Kd.R_below (by (with_reducible repeat (first | apply Kd.R_alloc | apply Kd.R_drewN | apply Kd.R_drew)); exact HO7043.out) hb)
            have n10_ := Aside0.mk (blk_below (g := gb7001) (o := .cells #[.int .i64 a0_0, .slice A0_1 l0_1.length c0_1, .slice A0_2 l0_2.length c0_2] 31 (0, 0)) (by (with_reducible repeat (first | refine blk_drewN ?_ _ | refine blk_drew ?_ | refine blk_alloc ?_ _)); exact BK7001.out) hb)
            have n11_ := Aside0.mk (blk_below (g := gb7002) (o := .cells #[.int .i64 a1_0, .slice A1_1 l1_1.length c1_1, .slice A1_2 l1_2.length c1_2] 31 (0, 0)) (by (with_reducible repeat (first | refine blk_drewN ?_ _ | refine blk_drew ?_ | refine blk_alloc ?_ _)); exact BK7002.out) hb)
            have n12_ := Aside0.mk (blk_below (g := gb7027) (o := .cells #[.int .i64 t7020, .slice Ao53 t7021.length co53, .slice Ao54 t7024.length co54] 34 (0, 0)) (by (with_reducible repeat (first | refine blk_drewN ?_ _ | refine blk_drew ?_ | refine blk_alloc ?_ _)); exact BK7027.out) hb)
            have n13_ := Aside0.mk (blk_below (g := gb7035) (o := .cells #[.int .i64 t7028, .slice Ao62 t7029.length co62, .slice Ao63 t7032.length co63] 34 (0, 0)) (by (with_reducible repeat (first | refine blk_drewN ?_ _ | refine blk_drew ?_ | refine blk_alloc ?_ _)); exact BK7035.out) hb)
            have n14_ := Aside0.mk (below_step (by repeat (first | (with_reducible first | exact HB.out | apply below_alloc | apply pw_below_drewN | apply below_drew1 | refine below_set ?_ GE7001.out | refine below_set ?_ GE7002.out | refine below_set ?_ GE7027.out | refine below_set ?_ GE7035.out) | exact HB.out)) hb)
            clear HO7008
            clear HO7011
            clear HO7015
            clear HO7018
            clear HO7023
            clear HO7026
            clear HO7031
            clear HO7034
            clear HO7040
            clear HO7043
            clear BK7001
            clear BK7002
            clear BK7027
            clear BK7035
            clear HB
            have HO7008 := n0_
            have HO7011 := n1_
            have HO7015 := n2_
            have HO7018 := n3_
            have HO7023 := n4_
            have HO7026 := n5_
            have HO7031 := n6_
            have HO7034 := n7_
            have HO7040 := n8_
            have HO7043 := n9_
            have BK7001 := n10_
            have BK7002 := n11_
            have BK7027 := n12_
            have BK7035 := n13_
            have HB := n14_
            clear n0_ n1_ n2_ n3_ n4_ n5_ n6_ n7_ n8_ n9_ n10_ n11_ n12_ n13_ n14_
            (try clear hb)
            (try clear hb2)
            (try clear hk)
            (try clear hi)
            refine hK.out _ _ ⟨(blk_cell BK7027.out 0).trans rfl, (blk_cell BK7027.out 1).trans rfl, (blk_cell BK7027.out 2).trans rfl, (blk_cell BK7001.out 0).trans rfl, (blk_cell BK7001.out 1).trans rfl, (blk_cell BK7001.out 2).trans rfl⟩ (fun hHeld => ?_)
            clear hK K
            refine norm_ (a' := ?_) ?_ ?_
            rotate_left
            · show Act.put _ (some 38) _ = _
              simp only [Act.put, List.setIfInBounds_toArray, List.set_cons_zero, List.set_cons_succ, i64_w, i32_w]
              rfl
            refine pure_ (i := 4) (N := some 39) (v := ?_) (a' := ?_) #[true, true, true, true, true] rfl rfl (by kernel_rfl) (fun _ _ _ h => h) (Or.inl ⟨by rfl, ?_⟩) ?_ ?_
            rotate_left
            · intro w'
              go_simp
              with_reducible rfl
            rotate_left
            · simp only [Act.put, List.setIfInBounds_toArray, List.set_cons_zero, List.set_cons_succ, i64_w, i32_w]
              rfl
            refine done_ (by kernel_rfl) ?_
            try go_wp2
            have n0_ := Aside0.mk (Kd.R_drew HO7008.out)
            have n1_ := Aside0.mk (Kd.R_drew HO7011.out)
            have n2_ := Aside0.mk (Kd.R_drew HO7015.out)
            have n3_ := Aside0.mk (Kd.R_drew HO7018.out)
            have n4_ := Aside0.mk (Kd.R_drew HO7023.out)
            have n5_ := Aside0.mk (Kd.R_drew HO7026.out)
            have n6_ := Aside0.mk (Kd.R_drew HO7031.out)
            have n7_ := Aside0.mk (Kd.R_drew HO7034.out)
            have n8_ := Aside0.mk (Kd.R_drew HO7040.out)
            have n9_ := Aside0.mk (Kd.R_drew HO7043.out)
            have n10_ := Aside0.mk (blk_drew BK7001.out)
            have n11_ := Aside0.mk (blk_drew BK7002.out)
            have n12_ := Aside0.mk (blk_drew BK7027.out)
            have n13_ := Aside0.mk (blk_drew BK7035.out)
            have n14_ := Aside0.mk (below_drew1 HB.out)
            clear HO7008
            clear HO7011
            clear HO7015
            clear HO7018
            clear HO7023
            clear HO7026
            clear HO7031
            clear HO7034
            clear HO7040
            clear HO7043
            clear BK7001
            clear BK7002
            clear BK7027
            clear BK7035
            clear HB
            have HO7008 := n0_
            have HO7011 := n1_
            have HO7015 := n2_
            have HO7018 := n3_
            have HO7023 := n4_
            have HO7026 := n5_
            have HO7031 := n6_
            have HO7034 := n7_
            have HO7040 := n8_
            have HO7043 := n9_
            have BK7001 := n10_
            have BK7002 := n11_
            have BK7027 := n12_
            have BK7035 := n13_
            have HB := n14_
            clear n0_ n1_ n2_ n3_ n4_ n5_ n6_ n7_ n8_ n9_ n10_ n11_ n12_ n13_ n14_
            refine start_ (n := 5) (S := fun w' => w'.cell? ⟨gb7035, 0, none⟩ = some (.int .i64 t7028) ∧ w'.cell? ⟨gb7035, 1, none⟩ = some (.slice Ao62 t7029.length co62) ∧ w'.cell? ⟨gb7035, 2, none⟩ = some (.slice Ao63 t7032.length co63) ∧ w'.cell? ⟨gb7002, 0, none⟩ = some (.int .i64 a1_0) ∧ w'.cell? ⟨gb7002, 1, none⟩ = some (.slice A1_1 l1_1.length c1_1) ∧ w'.cell? ⟨gb7002, 2, none⟩ = some (.slice A1_2 l1_2.length c1_2)) (ds := []) #[false, false, false, false, false] (by kernel_rfl) rfl rfl ⟨(blk_cell BK7035.out 0).trans rfl, (blk_cell BK7035.out 1).trans rfl, (blk_cell BK7035.out 2).trans rfl, (blk_cell BK7002.out 0).trans rfl, (blk_cell BK7002.out 1).trans rfl, (blk_cell BK7002.out 2).trans rfl⟩ (fun hHeld => ?_)
            generalize w70.drew = w71 at HO7008 HO7011 HO7015 HO7018 HO7023 HO7026 HO7031 HO7034 HO7040 HO7043 BK7001 BK7002 BK7027 BK7035 HB hHeld ⊢
            refine take_ (i := 0) (N := some 40) (v := ?_) (a' := ?_) #[true, false, false, false, false] rfl rfl (by kernel_rfl) (fun _ _ _ h => h) (Or.inl ⟨by rfl, ?_⟩) hHeld ?_ ?_
            rotate_left
            · rintro w' ⟨s0, s1, s2, s3, s4, s5⟩
              go_simp
              with_reducible rfl
            rotate_left
            · simp only [Act.put, List.setIfInBounds_toArray, List.set_cons_zero, List.set_cons_succ, i64_w, i32_w]
              rfl
            refine take_ (i := 1) (N := some 41) (v := ?_) (a' := ?_) #[true, true, false, false, false] rfl rfl (by kernel_rfl) (fun _ _ _ h => h) (Or.inl ⟨by rfl, ?_⟩) hHeld ?_ ?_
            rotate_left
            · rintro w' ⟨s0, s1, s2, s3, s4, s5⟩
              go_simp
              with_reducible rfl
            rotate_left
            · simp only [Act.put, List.setIfInBounds_toArray, List.set_cons_zero, List.set_cons_succ, i64_w, i32_w]
              rfl
            refine one_ (i := 2) (N := some 42) #[true, true, true, false, false] rfl rfl (by kernel_rfl) (by decide) (fun K hK => ?_)
            refine goes_ Try.func28 (by kernel_rfl) rfl #[.agg #[.int .i64 a1_0, .slice A1_1 l1_1.length c1_1, .slice A1_2 l1_2.length c1_2]] (by rfl) rfl rfl (by (try simp only [List.map_toArray, List.map_cons, List.map_nil]); first | done | rfl | (simp only [List.length_drop, List.length_take]; rfl)) ?_
            with_reducible refine (laws_toState.calls k a1_0 _ _ l1_1 _ _ l1_2 t7045 t7046 t7049 _ ?side1 ?side2 ?side3 ?side4 A29.out).mono ?_
            (case side1 => repeat (first | exact (Kd.C_below HR1_1.out HB.out) | (with_reducible refine Kd.C_alloc ?_ _) | (with_reducible refine Kd.C_drewN ?_ _) | (with_reducible refine Kd.C_drew ?_)))
            (case side2 => exact HC1_1.out)
            (case side3 => repeat (first | exact (Kd.C_below HR1_2.out HB.out) | (with_reducible refine Kd.C_alloc ?_ _) | (with_reducible refine Kd.C_drewN ?_ _) | (with_reducible refine Kd.C_drew ?_)))
            (case side4 => exact HC1_2.out)
            rintro e w72 ⟨v7047, v7050, rfl, ho0, ho1, hb⟩
            refine ⟨_, rfl, ?_⟩
            have n0_ := Aside0.mk (Kd.R_mono (Kd.R_told (Kd.R_told (Kd.R_old (by (with_reducible repeat (first | apply Kd.R_alloc | apply Kd.R_drewN | apply Kd.R_drew)); exact HO7008.out) hb) (Kd.R_base ho0)) (Kd.R_base ho1)) (fun _ h_ => h_.1))
            have n1_ := Aside0.mk (Kd.R_mono (Kd.R_told (Kd.R_told (Kd.R_old (by (with_reducible repeat (first | apply Kd.R_alloc | apply Kd.R_drewN | apply Kd.R_drew)); exact HO7011.out) hb) (Kd.R_base ho0)) (Kd.R_base ho1)) (fun _ h_ => h_.1))
            have n2_ := Aside0.mk (Kd.R_mono (Kd.R_told (Kd.R_told (Kd.R_old (by (with_reducible repeat (first | apply Kd.R_alloc | apply Kd.R_drewN | apply Kd.R_drew)); exact HO7015.out) hb) (Kd.R_base ho0)) (Kd.R_base ho1)) (fun _ h_ => h_.1))
            have n3_ := Aside0.mk (Kd.R_mono (Kd.R_told (Kd.R_told (Kd.R_old (by (with_reducible repeat (first | apply Kd.R_alloc | apply Kd.R_drewN | apply Kd.R_drew)); exact HO7018.out) hb) (Kd.R_base ho0)) (Kd.R_base ho1)) (fun _ h_ => h_.1))
            have n4_ := Aside0.mk (Kd.R_mono (Kd.R_told (Kd.R_told (Kd.R_old (by (with_reducible repeat (first | apply Kd.R_alloc | apply Kd.R_drewN | apply Kd.R_drew)); exact HO7023.out) hb) (Kd.R_base ho0)) (Kd.R_base ho1)) (fun _ h_ => h_.1))
            have n5_ := Aside0.mk (Kd.R_mono (Kd.R_told (Kd.R_told (Kd.R_old (by (with_reducible repeat (first | apply Kd.R_alloc | apply Kd.R_drewN | apply Kd.R_drew)); exact HO7026.out) hb) (Kd.R_base ho0)) (Kd.R_base ho1)) (fun _ h_ => h_.1))
            have n6_ := Aside0.mk (Kd.R_mono (Kd.R_told (Kd.R_told (Kd.R_old (by (with_reducible repeat (first | apply Kd.R_alloc | apply Kd.R_drewN | apply Kd.R_drew)); exact HO7031.out) hb) (Kd.R_base ho0)) (Kd.R_base ho1)) (fun _ h_ => h_.1))
            have n7_ := Aside0.mk (Kd.R_mono (Kd.R_told (Kd.R_told (Kd.R_old (by (with_reducible repeat (first | apply Kd.R_alloc | apply Kd.R_drewN | apply Kd.R_drew)); exact HO7034.out) hb) (Kd.R_base ho0)) (Kd.R_base ho1)) (fun _ h_ => h_.1))
            have n8_ := Aside0.mk (Kd.R_mono (Kd.R_told (Kd.R_told (Kd.R_old (by (with_reducible repeat (first | apply Kd.R_alloc | apply Kd.R_drewN | apply Kd.R_drew)); exact HO7040.out) hb) (Kd.R_base ho0)) (Kd.R_base ho1)) (fun _ h_ => h_.1))
            have n9_ := Aside0.mk (Kd.R_mono (Kd.R_told (Kd.R_told (Kd.R_old (by (with_reducible repeat (first | apply Kd.R_alloc | apply Kd.R_drewN | apply Kd.R_drew)); exact HO7043.out) hb) (Kd.R_base ho0)) (Kd.R_base ho1)) (fun _ h_ => h_.1))
            have n10_ := Aside0.mk (Kd.R_lower (Kd.R_new' (Kd.R_new' (Kd.R_new' (Kd.R_new' (Kd.R_new' (Kd.R_new' (Kd.R_new' (Kd.R_new' (Kd.R_new' (Kd.R_new' ho0 (Kd.R_lt (by (with_reducible repeat (first | apply Kd.R_alloc | apply Kd.R_drewN | apply Kd.R_drew)); exact HO7008.out))) (Kd.R_lt (by (with_reducible repeat (first | apply Kd.R_alloc | apply Kd.R_drewN | apply Kd.R_drew)); exact HO7011.out))) (Kd.R_lt (by (with_reducible repeat (first | apply Kd.R_alloc | apply Kd.R_drewN | apply Kd.R_drew)); exact HO7015.out))) (Kd.R_lt (by (with_reducible repeat (first | apply Kd.R_alloc | apply Kd.R_drewN | apply Kd.R_drew)); exact HO7018.out))) (Kd.R_lt (by (with_reducible repeat (first | apply Kd.R_alloc | apply Kd.R_drewN | apply Kd.R_drew)); exact HO7023.out))) (Kd.R_lt (by (with_reducible repeat (first | apply Kd.R_alloc | apply Kd.R_drewN | apply Kd.R_drew)); exact HO7026.out))) (Kd.R_lt (by (with_reducible repeat (first | apply Kd.R_alloc | apply Kd.R_drewN | apply Kd.R_drew)); exact HO7031.out))) (Kd.R_lt (by (with_reducible repeat (first | apply Kd.R_alloc | apply Kd.R_drewN | apply Kd.R_drew)); exact HO7034.out))) (Kd.R_lt (by (with_reducible repeat (first | apply Kd.R_alloc | apply Kd.R_drewN | apply Kd.R_drew)); exact HO7040.out))) (Kd.R_lt (by (with_reducible repeat (first | apply Kd.R_alloc | apply Kd.R_drewN | apply Kd.R_drew)); exact HO7043.out))) (below_size (by repeat (first | (with_reducible first | exact HB.out | apply below_alloc | apply pw_below_drewN | apply below_drew1 | refine below_set ?_ GE7001.out | refine below_set ?_ GE7002.out | refine below_set ?_ GE7027.out | refine below_set ?_ GE7035.out) | exact HB.out))))
            have n11_ := Aside0.mk (Kd.R_lower (Kd.R_new' (Kd.R_new' (Kd.R_new' (Kd.R_new' (Kd.R_new' (Kd.R_new' (Kd.R_new' (Kd.R_new' (Kd.R_new' (Kd.R_new' ho1 (Kd.R_lt (by (with_reducible repeat (first | apply Kd.R_alloc | apply Kd.R_drewN | apply Kd.R_drew)); exact HO7008.out))) (Kd.R_lt (by (with_reducible repeat (first | apply Kd.R_alloc | apply Kd.R_drewN | apply Kd.R_drew)); exact HO7011.out))) (Kd.R_lt (by (with_reducible repeat (first | apply Kd.R_alloc | apply Kd.R_drewN | apply Kd.R_drew)); exact HO7015.out))) (Kd.R_lt (by (with_reducible repeat (first | apply Kd.R_alloc | apply Kd.R_drewN | apply Kd.R_drew)); exact HO7018.out))) (Kd.R_lt (by (with_reducible repeat (first | apply Kd.R_alloc | apply Kd.R_drewN | apply Kd.R_drew)); exact HO7023.out))) (Kd.R_lt (by (with_reducible repeat (first | apply Kd.R_alloc | apply Kd.R_drewN | apply Kd.R_drew)); exact HO7026.out))) (Kd.R_lt (by (with_reducible repeat (first | apply Kd.R_alloc | apply Kd.R_drewN | apply Kd.R_drew)); exact HO7031.out))) (Kd.R_lt (by (with_reducible repeat (first | apply Kd.R_alloc | apply Kd.R_drewN | apply Kd.R_drew)); exact HO7034.out))) (Kd.R_lt (by (with_reducible repeat (first | apply Kd.R_alloc | apply Kd.R_drewN | apply Kd.R_drew)); exact HO7040.out))) (Kd.R_lt (by (with_reducible repeat (first | apply Kd.R_alloc | apply Kd.R_drewN | apply Kd.R_drew)); exact HO7043.out))) (below_size (by repeat (first | (with_reducible first | exact HB.out | apply below_alloc | apply pw_below_drewN | apply below_drew1 | refine below_set ?_ GE7001.out | refine below_set ?_ GE7002.out | refine below_set ?_ GE7027.out | refine below_set ?_ GE7035.out) | exact HB.out))))
            have n12_ := Aside0.mk (blk_below (g := gb7001) (o := .cells #[.int .i64 a0_0, .slice A0_1 l0_1.length c0_1, .slice A0_2 l0_2.length c0_2] 31 (0, 0)) (by (with_reducible repeat (first | refine blk_drewN ?_ _ | refine blk_drew ?_ | refine blk_alloc ?_ _)); exact BK7001.out) hb)
            have n13_ := Aside0.mk (blk_below (g := gb7002) (o := .cells #[.int .i64 a1_0, .slice A1_1 l1_1.length c1_1, .slice A1_2 l1_2.length c1_2] 31 (0, 0)) (by (with_reducible repeat (first | refine blk_drewN ?_ _ | refine blk_drew ?_ | refine blk_alloc ?_ _)); exact BK7002.out) hb)
            have n14_ := Aside0.mk (blk_below (g := gb7027) (o := .cells #[.int .i64 t7020, .slice Ao53 t7021.length co53, .slice Ao54 t7024.length co54] 34 (0, 0)) (by (with_reducible repeat (first | refine blk_drewN ?_ _ | refine blk_drew ?_ | refine blk_alloc ?_ _)); exact BK7027.out) hb)
            have n15_ := Aside0.mk (blk_below (g := gb7035) (o := .cells #[.int .i64 t7028, .slice Ao62 t7029.length co62, .slice Ao63 t7032.length co63] 34 (0, 0)) (by (with_reducible repeat (first | refine blk_drewN ?_ _ | refine blk_drew ?_ | refine blk_alloc ?_ _)); exact BK7035.out) hb)
            have n16_ := Aside0.mk (below_step (by repeat (first | (with_reducible first | exact HB.out | apply below_alloc | apply pw_below_drewN | apply below_drew1 | refine below_set ?_ GE7001.out | refine below_set ?_ GE7002.out | refine below_set ?_ GE7027.out | refine below_set ?_ GE7035.out) | exact HB.out)) hb)
            clear HO7008
            clear HO7011
            clear HO7015
            clear HO7018
            clear HO7023
            clear HO7026
            clear HO7031
            clear HO7034
            clear HO7040
            clear HO7043
            clear BK7001
            clear BK7002
            clear BK7027
            clear BK7035
            clear HB
            have HO7008 := n0_
            have HO7011 := n1_
            have HO7015 := n2_
            have HO7018 := n3_
            have HO7023 := n4_
            have HO7026 := n5_
            have HO7031 := n6_
            have HO7034 := n7_
            have HO7040 := n8_
            have HO7043 := n9_
            have HO7048 := n10_
            have HO7051 := n11_
            have BK7001 := n12_
            have BK7002 := n13_
            have BK7027 := n14_
            have BK7035 := n15_
            have HB := n16_
            clear n0_ n1_ n2_ n3_ n4_ n5_ n6_ n7_ n8_ n9_ n10_ n11_ n12_ n13_ n14_ n15_ n16_
            (try clear hb)
            (try clear hb2)
            (try clear hk)
            (try clear hi)
            (try clear ho0)
            (try clear ho1)
            obtain ⟨Ao73, co73, eo73⟩ := Kd.R_slice HO7048.out
            (first | subst eo73 | (injection eo73 with f1_ f2_ f3_; have f4_ := f1_.symm; have f5_ := f3_.symm; clear f1_ f2_ f3_; subst f4_; subst f5_))
            obtain ⟨Ao74, co74, eo74⟩ := Kd.R_slice HO7051.out
            (first | subst eo74 | (injection eo74 with f1_ f2_ f3_; have f4_ := f1_.symm; have f5_ := f3_.symm; clear f1_ f2_ f3_; subst f4_; subst f5_))
            refine hK.out _ _ ⟨(blk_cell BK7035.out 0).trans rfl, (blk_cell BK7035.out 1).trans rfl, (blk_cell BK7035.out 2).trans rfl, (blk_cell BK7002.out 0).trans rfl, (blk_cell BK7002.out 1).trans rfl, (blk_cell BK7002.out 2).trans rfl⟩ (fun hHeld => ?_)
            clear hK K
            refine norm_ (a' := ?_) ?_ ?_
            rotate_left
            · show Act.put _ (some 42) _ = _
              simp only [Act.put, List.setIfInBounds_toArray, List.set_cons_zero, List.set_cons_succ, i64_w, i32_w]
              rfl
            refine one_ (i := 3) (N := some 43) #[true, true, true, true, false] rfl rfl (by kernel_rfl) (by decide) (fun K hK => ?_)
            refine goes_ Try.func30 (by kernel_rfl) rfl #[.agg #[.int .i64 t7028, .slice Ao62 t7029.length co62, .slice Ao63 t7032.length co63], .agg #[.int .i64 t7045, .slice Ao73 t7046.length co73, .slice Ao74 t7049.length co74]] (by rfl) rfl rfl (by (try simp only [List.map_toArray, List.map_cons, List.map_nil]); first | done | rfl | (simp only [List.length_drop, List.length_take]; rfl)) ?_
            with_reducible refine (laws_eqState.calls k t7028 _ _ t7029 _ _ t7032 t7045 _ _ t7046 _ _ t7049 true _ ?side1 ?side2 ?side3 ?side4 ?side5 ?side6 ?side7 ?side8 A30.out).mono ?_
            (case side1 => repeat (first | exact (Kd.R_reads' HO7031.out).2.2 | (with_reducible refine Kd.C_alloc ?_ _) | (with_reducible refine Kd.C_drewN ?_ _) | (with_reducible refine Kd.C_drew ?_)))
            (case side2 => exact (Kd.R_reads' HO7031.out).2.1)
            (case side3 => repeat (first | exact (Kd.R_reads' HO7034.out).2.2 | (with_reducible refine Kd.C_alloc ?_ _) | (with_reducible refine Kd.C_drewN ?_ _) | (with_reducible refine Kd.C_drew ?_)))
            (case side4 => exact (Kd.R_reads' HO7034.out).2.1)
            (case side5 => repeat (first | exact (Kd.R_reads' HO7048.out).2.2 | (with_reducible refine Kd.C_alloc ?_ _) | (with_reducible refine Kd.C_drewN ?_ _) | (with_reducible refine Kd.C_drew ?_)))
            (case side6 => exact (Kd.R_reads' HO7048.out).2.1)
            (case side7 => repeat (first | exact (Kd.R_reads' HO7051.out).2.2 | (with_reducible refine Kd.C_alloc ?_ _) | (with_reducible refine Kd.C_drewN ?_ _) | (with_reducible refine Kd.C_drew ?_)))
            (case side8 => exact (Kd.R_reads' HO7051.out).2.1)
            rintro e w75 ⟨rfl, hb⟩
            refine ⟨_, rfl, ?_⟩
            have n0_ := Aside0.mk (Kd.R_below (by (with_reducible repeat (first | apply Kd.R_alloc | apply Kd.R_drewN | apply Kd.R_drew)); exact HO7008.out) hb)
            have n1_ := Aside0.mk (Kd.R_below (by (with_reducible repeat (first | apply Kd.R_alloc | apply Kd.R_drewN | apply Kd.R_drew)); exact HO7011.out) hb)
            have n2_ := Aside0.mk (Kd.R_below (by (with_reducible repeat (first | apply Kd.R_alloc | apply Kd.R_drewN | apply Kd.R_drew)); exact HO7015.out) hb)
            have n3_ := Aside0.mk (Kd.R_below (by (with_reducible repeat (first | apply Kd.R_alloc | apply Kd.R_drewN | apply Kd.R_drew)); exact HO7018.out) hb)
            have n4_ := Aside0.mk (Kd.R_below (by (with_reducible repeat (first | apply Kd.R_alloc | apply Kd.R_drewN | apply Kd.R_drew)); exact HO7023.out) hb)
            have n5_ := Aside0.mk (Kd.R_below (by (with_reducible repeat (first | apply Kd.R_alloc | apply Kd.R_drewN | apply Kd.R_drew)); exact HO7026.out) hb)
            have n6_ := Aside0.mk (Kd.R_below (by (with_reducible repeat (first | apply Kd.R_alloc | apply Kd.R_drewN | apply Kd.R_drew)); exact HO7031.out) hb)
            have n7_ := Aside0.mk (Kd.R_below (by (with_reducible repeat (first | apply Kd.R_alloc | apply Kd.R_drewN | apply Kd.R_drew)); exact HO7034.out) hb)
            have n8_ := Aside0.mk (Kd.R_below (by (with_reducible repeat (first | apply Kd.R_alloc | apply Kd.R_drewN | apply Kd.R_drew)); exact HO7040.out) hb)
            have n9_ := Aside0.mk (Kd.R_below (by (with_reducible repeat (first | apply Kd.R_alloc | apply Kd.R_drewN | apply Kd.R_drew)); exact HO7043.out) hb)
            have n10_ := Aside0.mk (Kd.R_below (by (with_reducible repeat (first | apply Kd.R_alloc | apply Kd.R_drewN | apply Kd.R_drew)); exact HO7048.out) hb)
            have n11_ := Aside0.mk (Kd.R_below (by (with_reducible repeat (first | apply Kd.R_alloc | apply Kd.R_drewN | apply Kd.R_drew)); exact HO7051.out) hb)
            have n12_ := Aside0.mk (blk_below (g := gb7001) (o := .cells #[.int .i64 a0_0, .slice A0_1 l0_1.length c0_1, .slice A0_2 l0_2.length c0_2] 31 (0, 0)) (by (with_reducible repeat (first | refine blk_drewN ?_ _ | refine blk_drew ?_ | refine blk_alloc ?_ _)); exact BK7001.out) hb)
            have n13_ := Aside0.mk (blk_below (g := gb7002) (o := .cells #[.int .i64 a1_0, .slice A1_1 l1_1.length c1_1, .slice A1_2 l1_2.length c1_2] 31 (0, 0)) (by (with_reducible repeat (first | refine blk_drewN ?_ _ | refine blk_drew ?_ | refine blk_alloc ?_ _)); exact BK7002.out) hb)
            have n14_ := Aside0.mk (blk_below (g := gb7027) (o := .cells #[.int .i64 t7020, .slice Ao53 t7021.length co53, .slice Ao54 t7024.length co54] 34 (0, 0)) (by (with_reducible repeat (first | refine blk_drewN ?_ _ | refine blk_drew ?_ | refine blk_alloc ?_ _)); exact BK7027.out) hb)
            have n15_ := Aside0.mk (blk_below (g := gb7035) (o := .cells #[.int .i64 t7028, .slice Ao62 t7029.length co62, .slice Ao63 t7032.length co63] 34 (0, 0)) (by (with_reducible repeat (first | refine blk_drewN ?_ _ | refine blk_drew ?_ | refine blk_alloc ?_ _)); exact BK7035.out) hb)
            have n16_ := Aside0.mk (below_step (by repeat (first | (with_reducible first | exact HB.out | apply below_alloc | apply pw_below_drewN | apply below_drew1 | refine below_set ?_ GE7001.out | refine below_set ?_ GE7002.out | refine below_set ?_ GE7027.out | refine below_set ?_ GE7035.out) | exact HB.out)) hb)
            clear HO7008
            clear HO7011
            clear HO7015
            clear HO7018
            clear HO7023
            clear HO7026
            clear HO7031
            clear HO7034
            clear HO7040
            clear HO7043
            clear HO7048
            clear HO7051
            clear BK7001
            clear BK7002
            clear BK7027
            clear BK7035
            clear HB
            have HO7008 := n0_
            have HO7011 := n1_
            have HO7015 := n2_
            have HO7018 := n3_
            have HO7023 := n4_
            have HO7026 := n5_
            have HO7031 := n6_
            have HO7034 := n7_
            have HO7040 := n8_
            have HO7043 := n9_
            have HO7048 := n10_
            have HO7051 := n11_
            have BK7001 := n12_
            have BK7002 := n13_
            have BK7027 := n14_
            have BK7035 := n15_
            have HB := n16_
            clear n0_ n1_ n2_ n3_ n4_ n5_ n6_ n7_ n8_ n9_ n10_ n11_ n12_ n13_ n14_ n15_ n16_
            (try clear hb)
            (try clear hb2)
            (try clear hk)
            (try clear hi)
            refine hK.out _ _ ⟨(blk_cell BK7035.out 0).trans rfl, (blk_cell BK7035.out 1).trans rfl, (blk_cell BK7035.out 2).trans rfl, (blk_cell BK7002.out 0).trans rfl, (blk_cell BK7002.out 1).trans rfl, (blk_cell BK7002.out 2).trans rfl⟩ (fun hHeld => ?_)
            clear hK K
            refine norm_ (a' := ?_) ?_ ?_
            rotate_left
            · show Act.put _ (some 43) _ = _
              simp only [Act.put, List.setIfInBounds_toArray, List.set_cons_zero, List.set_cons_succ, i64_w, i32_w]
              rfl
            refine pure_ (i := 4) (N := some 44) (v := ?_) (a' := ?_) #[true, true, true, true, true] rfl rfl (by kernel_rfl) (fun _ _ _ h => h) (Or.inl ⟨by rfl, ?_⟩) ?_ ?_
            rotate_left
            · intro w'
              go_simp
              with_reducible rfl
            rotate_left
            · simp only [Act.put, List.setIfInBounds_toArray, List.set_cons_zero, List.set_cons_succ, i64_w, i32_w]
              rfl
            refine done_ (by kernel_rfl) ?_
            try go_wp2
            go_ret
            exact ⟨by first | rfl | (simp [errW_none, errW_some] <;> rfl) | (simp [*, errW_none, errW_some] <;> rfl), by repeat (first | (with_reducible first | exact HB.out | apply below_alloc | apply pw_below_drewN | apply below_drew1 | refine below_set ?_ GE7001.out | refine below_set ?_ GE7002.out | refine below_set ?_ GE7027.out | refine below_set ?_ GE7035.out) | exact HB.out)⟩
          · replace c31 := Bool.eq_false_iff.mpr c31
            subst c31
            exact absurd H (by simp)
        · replace c28 := Bool.eq_false_iff.mpr c28
          subst c28
          exact absurd H (by simp)

end Go.Proofs.Ytammpmadchekeaa.Pr
