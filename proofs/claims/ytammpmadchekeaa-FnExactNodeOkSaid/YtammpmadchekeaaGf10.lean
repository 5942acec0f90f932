/- What a call of each function below returns, over this translation; the conditions stand in each theorem. Laid by a program of this session. -/
import Derived.Test.YtammpmadchekeaaG0
import Derived.Test.YtammpmadchekeaaGf35
import Derived.Test.YtammpmadchekeaaGf36
import Derived.Test.YtammpmadchekeaaGf37
import Derived.Test.YtammpmadchekeaaGf38
import Derived.Test.YtammpmadchekeaaGf39
namespace Go.Proofs.Ytammpmadchekeaa.Pr
open Go.RowKit Go.Proofs.YtammpmadchekeaaW.PrintWords Go.Proofs.YtammpmadchekeaaW.PrintLast Go.Proofs.YtammpmadchekeaaW.PrintMore
attribute [local go_sem] max2_int min2_int max_two min_two max_three min_three max_four min_four
set_option linter.unusedVariables false
set_option linter.unusedSimpArgs false

/-! ### laws_FnExactNodeOk: function 10 -/
def laws_FnExactNodeOk.f (k : Nat) (a0_0 : ByteArray) (l0_1 : List Int) (a0_2 : Int) : Option (Bool) := (laws_szNode.f a0_0 l0_1 a0_2 1048576).bind fun t10002 => (if t10002 < 0 then (some true) else ((laws_toNode.f k a0_0 l0_1 a0_2).bind fun bt10003 => ((spec_NodeOk.f k bt10003.1 bt10003.2.1 bt10003.2.2).bind fun t10008 => ((laws_toNode.f k a0_0 l0_1 a0_2).bind fun bt10009 => ((impl_NodeOk.f k bt10009.1 bt10009.2.1 bt10009.2.2).bind fun t10015 => (if (t10015 != t10008) = true then (some false) else ((laws_toNode.f k a0_0 l0_1 a0_2).bind fun bt10016 => ((laws_eqNode.f k bt10009.1 bt10009.2.1 bt10009.2.2 bt10016.1 bt10016.2.1 bt10016.2.2).bind fun t10021 => (if t10021 = true then (some true) else (some false))))))))))
set_option maxHeartbeats 8000000 in
set_option maxRecDepth 100000 in
theorem laws_FnExactNodeOk.calls (k : Nat) (a0_0 : ByteArray) (A0_1 : Option Addr) (c0_1 : Nat) (l0_1 : List Int) (a0_2 : Int) (w : World) (hr0_1 : Kd.C (Kd.int .i64) w A0_1 l0_1.length l0_1) (hc0_1 : l0_1.length ≤ c0_1) (h : laws_FnExactNodeOk.f k a0_0 l0_1 a0_2 = some true) :
    Calls Try.prog 10 #[.agg #[.string a0_0, .slice A0_1 l0_1.length c0_1, .int .i64 a0_2]] w fun e w' => e = .returned (.bool true) ∧ Below w.heap.size w w' := by
  have hu39 := Try.underlying39
  have hu42 := Try.underlying42
  have HR0_1 := Aside0.mk hr0_1
  have HC0_1 := Aside0.mk hc0_1
  clear hr0_1 hc0_1
  have HB := Aside0.mk (Below.refl w.heap.size w)
  have H : ((laws_szNode.f a0_0 l0_1 a0_2 1048576).bind fun t10002 => (if t10002 < 0 then (some true) else ((laws_toNode.f k a0_0 l0_1 a0_2).bind fun bt10003 => ((spec_NodeOk.f k bt10003.1 bt10003.2.1 bt10003.2.2).bind fun t10008 => ((laws_toNode.f k a0_0 l0_1 a0_2).bind fun bt10009 => ((impl_NodeOk.f k bt10009.1 bt10009.2.1 bt10009.2.2).bind fun t10015 => (if (t10015 != t10008) = true then (some false) else ((laws_toNode.f k a0_0 l0_1 a0_2).bind fun bt10016 => ((laws_eqNode.f k bt10009.1 bt10009.2.1 bt10009.2.2 bt10016.1 bt10016.2.1 bt10016.2.2).bind fun t10021 => (if t10021 = true then (some true) else (some false))))))))))) = some true := h
  clear h
  replace H := Option.bind_eq_some_iff.mp H
  obtain ⟨t10002, A20, H⟩ := H
  replace H : (if t10002 < 0 then (some true) else ((laws_toNode.f k a0_0 l0_1 a0_2).bind fun bt10003 => ((spec_NodeOk.f k bt10003.1 bt10003.2.1 bt10003.2.2).bind fun t10008 => ((laws_toNode.f k a0_0 l0_1 a0_2).bind fun bt10009 => ((impl_NodeOk.f k bt10009.1 bt10009.2.1 bt10009.2.2).bind fun t10015 => (if (t10015 != t10008) = true then (some false) else ((laws_toNode.f k a0_0 l0_1 a0_2).bind fun bt10016 => ((laws_eqNode.f k bt10009.1 bt10009.2.1 bt10009.2.2 bt10016.1 bt10016.2.1 bt10016.2.2).bind fun t10021 => (if t10021 = true then (some true) else (some false)))))))))) = some true := H
  have A2 := Aside0.mk A20
  clear A20
  by_cases c3 : t10002 < 0
  · rw [if_pos c3] at H
    have c3b0 : decide (t10002 < 0) = true := decide_eq_true c3
    clear c3
    clear H
    go_enter Try.func10, Try.ntmps10
    go_wp2_with (first | ((with_reducible refine gate_dst (N := 1) rfl ?_); refine box_event ?hg (N := 1) ?hd (cs := #[.string a0_0, .slice A0_1 l0_1.length c0_1, .int .i64 a0_2]) (t := 39) ?hr ?_; (case hd => rfl); (case hg => rfl); (case hr => first | (go_simp; done) | (go_simp; rfl)); intro gb10001 hg w4 hbox hb; have n0_ := Aside0.mk (below_step (by repeat (first | (with_reducible first | exact HB.out | apply below_alloc | apply pw_below_drewN | apply below_drew1) | exact HB.out)) hb); have n1_ := Aside0.mk (hbox); have n2_ := Aside0.mk ((by rw [hg]; exact (below_size (by repeat (first | (with_reducible first | exact HB.out | apply below_alloc | apply pw_below_drewN | apply below_drew1) | exact HB.out))) : w.heap.size ≤ gb10001)); have n3_ := Aside0.mk ((by rw [hg]; exact (below_size (by repeat (first | (with_reducible first | exact HB.out | apply below_alloc | apply pw_below_drewN | apply below_drew1) | exact HB.out))) : w.heap.size ≤ gb10001)); clear HB; have HB := n0_; have BK10001 := n1_; have GW10001 := n2_; have GE10001 := n3_; clear n0_ n1_ n2_ n3_; clear hb hbox hg; have hcz5_0 : w4.cell? ⟨gb10001, 0, none⟩ = some (.string a0_0) := (blk_cell BK10001.out 0).trans rfl; have hcz5_1 : w4.cell? ⟨gb10001, 1, none⟩ = some (.slice A0_1 l0_1.length c0_1) := (blk_cell BK10001.out 1).trans rfl; have hcz5_2 : w4.cell? ⟨gb10001, 2, none⟩ = some (.int .i64 a0_2) := (blk_cell BK10001.out 2).trans rfl; have hfz5_0 := blk_frozen BK10001.out 0; have hfz5_1 := blk_frozen BK10001.out 1; have hfz5_2 := blk_frozen BK10001.out 2) | ((with_reducible refine gate_callee (f := 35) rfl ?_); refine goesL_ (some 9) rfl rfl Try.func35 (by kernel_rfl) rfl #[.agg #[.string a0_0, .slice A0_1 l0_1.length c0_1, .int .i64 a0_2], .int .i64 1048576] rfl (by (try simp only [List.map_toArray, List.map_cons, List.map_nil]); first | done | rfl | (simp only [List.length_drop, List.length_take]; rfl)) ?_; (with_reducible refine (laws_szNode.calls a0_0 _ _ l0_1 a0_2 1048576 t10002 _ ?side1 ?side2 A2.out).mono ?_); (case side1 => repeat (first | exact (Kd.C_below HR0_1.out HB.out) | (with_reducible refine Kd.C_alloc ?_ _) | (with_reducible refine Kd.C_drewN ?_ _) | (with_reducible refine Kd.C_drew ?_))); (case side2 => exact HC0_1.out); rintro e w6 ⟨rfl, hb⟩; refine ⟨_, rfl, ?_⟩; have n0_ := Aside0.mk (blk_below (g := gb10001) (o := .cells #[.string a0_0, .slice A0_1 l0_1.length c0_1, .int .i64 a0_2] 39 (0, 0)) (by (with_reducible repeat (first | refine blk_drewN ?_ _ | refine blk_drew ?_ | refine blk_alloc ?_ _)); exact BK10001.out) hb); have n1_ := Aside0.mk (below_step (by repeat (first | (with_reducible first | exact HB.out | apply below_alloc | apply pw_below_drewN | apply below_drew1 | refine below_set ?_ GE10001.out) | exact HB.out)) hb); clear BK10001; clear HB; have BK10001 := n0_; have HB := n1_; clear n0_ n1_; (try clear hb); (try clear hb2); (try clear hk); (try clear hi)))
    go_ret
    exact ⟨by first | rfl | (simp [errW_none, errW_some] <;> rfl) | (simp [*, errW_none, errW_some] <;> rfl), by repeat (first | (with_reducible first | exact HB.out | apply below_alloc | apply pw_below_drewN | apply below_drew1 | refine below_set ?_ GE10001.out) | exact HB.out)⟩
  · rw [if_neg c3] at H
    have c3b0 : decide (t10002 < 0) = false := decide_eq_false c3
    clear c3
    replace H := Option.bind_eq_some_iff.mp H
    obtain ⟨⟨t10003, t10004, t10007⟩, A70, H⟩ := H
    replace H : ((spec_NodeOk.f k t10003 t10004 t10007).bind fun t10008 => ((laws_toNode.f k a0_0 l0_1 a0_2).bind fun bt10009 => ((impl_NodeOk.f k bt10009.1 bt10009.2.1 bt10009.2.2).bind fun t10015 => (if (t10015 != t10008) = true then (some false) else ((laws_toNode.f k a0_0 l0_1 a0_2).bind fun bt10016 => ((laws_eqNode.f k bt10009.1 bt10009.2.1 bt10009.2.2 bt10016.1 bt10016.2.1 bt10016.2.2).bind fun t10021 => (if t10021 = true then (some true) else (some false)))))))) = some true := H
    have A7 := Aside0.mk A70
    clear A70
    replace H := Option.bind_eq_some_iff.mp H
    obtain ⟨t10008, A80, H⟩ := H
    replace H : ((laws_toNode.f k a0_0 l0_1 a0_2).bind fun bt10009 => ((impl_NodeOk.f k bt10009.1 bt10009.2.1 bt10009.2.2).bind fun t10015 => (if (t10015 != t10008) = true then (some false) else ((laws_toNode.f k a0_0 l0_1 a0_2).bind fun bt10016 => ((laws_eqNode.f k bt10009.1 bt10009.2.1 bt10009.2.2 bt10016.1 bt10016.2.1 bt10016.2.2).bind fun t10021 => (if t10021 = true then (some true) else (some false))))))) = some true := H
    have A8 := Aside0.mk A80
    clear A80
    replace H := Option.bind_eq_some_iff.mp H
    obtain ⟨⟨t10009, t10010, t10013⟩, A90, H⟩ := H
    replace H : ((impl_NodeOk.f k t10009 t10010 t10013).bind fun t10015 => (if (t10015 != t10008) = true then (some false) else ((laws_toNode.f k a0_0 l0_1 a0_2).bind fun bt10016 => ((laws_eqNode.f k t10009 t10010 t10013 bt10016.1 bt10016.2.1 bt10016.2.2).bind fun t10021 => (if t10021 = true then (some true) else (some false)))))) = some true := H
    have A9 := Aside0.mk A90
    clear A90
    replace H := Option.bind_eq_some_iff.mp H
    obtain ⟨t10015, A100, H⟩ := H
    replace H : (if (t10015 != t10008) = true then (some false) else ((laws_toNode.f k a0_0 l0_1 a0_2).bind fun bt10016 => ((laws_eqNode.f k t10009 t10010 t10013 bt10016.1 bt10016.2.1 bt10016.2.2).bind fun t10021 => (if t10021 = true then (some true) else (some false))))) = some true := H
    have A10 := Aside0.mk A100
    clear A100
    by_cases c11 : (t10015 != t10008) = true
    · rw [if_pos c11] at H
      have c11b0 : (t10015 != t10008) = true := c11
      (try (have c11b1 : decide (t10015 = t10008) = false := by simpa using c11))
      (try (have c11b2 : (t10015 == t10008) = false := by simpa using c11))
      (try (have c11b3 : ¬ (t10015 = t10008) := by simpa using c11))
      clear c11
      exact absurd H (by simp)
    · rw [if_neg c11] at H
      have c11b0 : (t10015 != t10008) = false := by simpa using c11
      (try (have c11b1 : decide (t10015 = t10008) = true := by simpa using c11))
      (try (have c11b2 : (t10015 == t10008) = true := by simpa using c11))
      clear c11
      replace H := Option.bind_eq_some_iff.mp H
      obtain ⟨⟨t10016, t10017, t10020⟩, A120, H⟩ := H
      replace H : ((laws_eqNode.f k t10009 t10010 t10013 t10016 t10017 t10020).bind fun t10021 => (if t10021 = true then (some true) else (some false))) = some true := H
      have A12 := Aside0.mk A120
      clear A120
      replace H := Option.bind_eq_some_iff.mp H
      obtain ⟨t10021, A130, H⟩ := H
      replace H : (if t10021 = true then (some true) else (some false)) = some true := H
      have A13 := Aside0.mk A130
      clear A130
      by_cases c14 : t10021 = true
      · subst c14
        have H1 : (some true) = some true := by rw [if_pos rfl] at H; first | done | exact H
        clear H
        have H := H1
        clear H1
        clear H
        go_enter Try.func10, Try.ntmps10
        try go_wp2_with (first | ((with_reducible refine gate_dst (N := 1) rfl ?_); refine box_event ?hg (N := 1) ?hd (cs := #[.string a0_0, .slice A0_1 l0_1.length c0_1, .int .i64 a0_2]) (t := 39) ?hr ?_; (case hd => rfl); (case hg => rfl); (case hr => first | (go_simp; done) | (go_simp; rfl)); intro gb10001 hg w15 hbox hb; have n0_ := Aside0.mk (below_step (by repeat (first | (with_reducible first | exact HB.out | apply below_alloc | apply pw_below_drewN | apply below_drew1) | exact HB.out)) hb); have n1_ := Aside0.mk (hbox); have n2_ := Aside0.mk ((by rw [hg]; exact (below_size (by repeat (first | (with_reducible first | exact HB.out | apply below_alloc | apply pw_below_drewN | apply below_drew1) | exact HB.out))) : w.heap.size ≤ gb10001)); have n3_ := Aside0.mk ((by rw [hg]; exact (below_size (by repeat (first | (with_reducible first | exact HB.out | apply below_alloc | apply pw_below_drewN | apply below_drew1) | exact HB.out))) : w.heap.size ≤ gb10001)); clear HB; have HB := n0_; have BK10001 := n1_; have GW10001 := n2_; have GE10001 := n3_; clear n0_ n1_ n2_ n3_; clear hb hbox hg; have hcz16_0 : w15.cell? ⟨gb10001, 0, none⟩ = some (.string a0_0) := (blk_cell BK10001.out 0).trans rfl; have hcz16_1 : w15.cell? ⟨gb10001, 1, none⟩ = some (.slice A0_1 l0_1.length c0_1) := (blk_cell BK10001.out 1).trans rfl; have hcz16_2 : w15.cell? ⟨gb10001, 2, none⟩ = some (.int .i64 a0_2) := (blk_cell BK10001.out 2).trans rfl; have hfz16_0 := blk_frozen BK10001.out 0; have hfz16_1 := blk_frozen BK10001.out 1; have hfz16_2 := blk_frozen BK10001.out 2) | ((with_reducible refine gate_callee (f := 35) rfl ?_); refine goesL_ (some 9) rfl rfl Try.func35 (by kernel_rfl) rfl #[.agg #[.string a0_0, .slice A0_1 l0_1.length c0_1, .int .i64 a0_2], .int .i64 1048576] rfl (by (try simp only [List.map_toArray, List.map_cons, List.map_nil]); first | done | rfl | (simp only [List.length_drop, List.length_take]; rfl)) ?_; (with_reducible refine (laws_szNode.calls a0_0 _ _ l0_1 a0_2 1048576 t10002 _ ?side1 ?side2 A2.out).mono ?_); (case side1 => repeat (first | exact (Kd.C_below HR0_1.out HB.out) | (with_reducible refine Kd.C_alloc ?_ _) | (with_reducible refine Kd.C_drewN ?_ _) | (with_reducible refine Kd.C_drew ?_))); (case side2 => exact HC0_1.out); rintro e w17 ⟨rfl, hb⟩; refine ⟨_, rfl, ?_⟩; have n0_ := Aside0.mk (blk_below (g := gb10001) (o := .cells #[.string a0_0, .slice A0_1 l0_1.length c0_1, .int .i64 a0_2] 39 (0, 0)) (by (with_reducible repeat (first | refine blk_drewN ?_ _ | refine blk_drew ?_ | refine blk_alloc ?_ _)); exact BK10001.out) hb); have n1_ := Aside0.mk (below_step (by repeat (first | (with_reducible first | exact HB.out | apply below_alloc | apply pw_below_drewN | apply below_drew1 | refine below_set ?_ GE10001.out) | exact HB.out)) hb); clear BK10001; clear HB; have BK10001 := n0_; have HB := n1_; clear n0_ n1_; (try clear hb); (try clear hb2); (try clear hk); (try clear hi); have hcz18_0 : w17.cell? ⟨gb10001, 0, none⟩ = some (.string a0_0) := (blk_cell BK10001.out 0).trans rfl; have hcz18_1 : w17.cell? ⟨gb10001, 1, none⟩ = some (.slice A0_1 l0_1.length c0_1) := (blk_cell BK10001.out 1).trans rfl; have hcz18_2 : w17.cell? ⟨gb10001, 2, none⟩ = some (.int .i64 a0_2) := (blk_cell BK10001.out 2).trans rfl; have hfz18_0 := blk_frozen BK10001.out 0; have hfz18_1 := blk_frozen BK10001.out 1; have hfz18_2 := blk_frozen BK10001.out 2) | ((with_reducible refine gate_callee (f := 37) rfl ?_); refine goesL_ (some 13) rfl rfl Try.func37 (by kernel_rfl) rfl #[.agg #[.string a0_0, .slice A0_1 l0_1.length c0_1, .int .i64 a0_2]] rfl (by (try simp only [List.map_toArray, List.map_cons, List.map_nil]); first | done | rfl | (simp only [List.length_drop, List.length_take]; rfl)) ?_; (with_reducible refine (laws_toNode.calls k a0_0 _ _ l0_1 a0_2 t10003 t10004 t10007 _ ?side1 ?side2 A7.out).mono ?_); (case side1 => repeat (first | exact (Kd.C_below HR0_1.out HB.out) | (with_reducible refine Kd.C_alloc ?_ _) | (with_reducible refine Kd.C_drewN ?_ _) | (with_reducible refine Kd.C_drew ?_))); (case side2 => exact HC0_1.out); rintro e w19 ⟨v10005, rfl, ho0, hb⟩; refine ⟨_, rfl, ?_⟩; have n0_ := Aside0.mk (Kd.R_lower ho0 (below_size (by repeat (first | (with_reducible first | exact HB.out | apply below_alloc | apply pw_below_drewN | apply below_drew1 | refine below_set ?_ GE10001.out) | exact HB.out)))); have n1_ := Aside0.mk (blk_below (g := gb10001) (o := .cells #[.string a0_0, .slice A0_1 l0_1.length c0_1, .int .i64 a0_2] 39 (0, 0)) (by (with_reducible repeat (first | refine blk_drewN ?_ _ | refine blk_drew ?_ | refine blk_alloc ?_ _)); exact BK10001.out) hb); have n2_ := Aside0.mk (below_step (by repeat (first | (with_reducible first | exact HB.out | apply below_alloc | apply pw_below_drewN | apply below_drew1 | refine below_set ?_ GE10001.out) | exact HB.out)) hb); clear BK10001; clear HB; have HO10006 := n0_; have BK10001 := n1_; have HB := n2_; clear n0_ n1_ n2_; (try clear hb); (try clear hb2); (try clear hk); (try clear hi); (try clear ho0); obtain ⟨Ao20, co20, eo20⟩ := Kd.R_slice HO10006.out; subst eo20) | ((with_reducible refine gate_callee (f := 36) rfl ?_); refine goesL_ (some 14) rfl rfl Try.func36 (by kernel_rfl) rfl #[.agg #[.string t10003, .slice Ao20 t10004.length co20, .int .i64 t10007]] rfl (by (try simp only [List.map_toArray, List.map_cons, List.map_nil]); first | done | rfl | (simp only [List.length_drop, List.length_take]; rfl)) ?_; (with_reducible refine (spec_NodeOk.calls k t10003 _ _ t10004 t10007 t10008 _ ?side1 ?side2 A8.out).mono ?_); (case side1 => repeat (first | exact (Kd.R_reads' HO10006.out).2.2 | (with_reducible refine Kd.C_alloc ?_ _) | (with_reducible refine Kd.C_drewN ?_ _) | (with_reducible refine Kd.C_drew ?_))); (case side2 => exact (Kd.R_reads' HO10006.out).2.1); rintro e w21 ⟨rfl, hb⟩; refine ⟨_, rfl, ?_⟩; have n0_ := Aside0.mk (Kd.R_below (by (with_reducible repeat (first | apply Kd.R_alloc | apply Kd.R_drewN | apply Kd.R_drew)); exact HO10006.out) hb); have n1_ := Aside0.mk (blk_below (g := gb10001) (o := .cells #[.string a0_0, .slice A0_1 l0_1.length c0_1, .int .i64 a0_2] 39 (0, 0)) (by (with_reducible repeat (first | refine blk_drewN ?_ _ | refine blk_drew ?_ | refine blk_alloc ?_ _)); exact BK10001.out) hb); have n2_ := Aside0.mk (below_step (by repeat (first | (with_reducible first | exact HB.out | apply below_alloc | apply pw_below_drewN | apply below_drew1 | refine below_set ?_ GE10001.out) | exact HB.out)) hb); clear HO10006; clear BK10001; clear HB; have HO10006 := n0_; have BK10001 := n1_; have HB := n2_; clear n0_ n1_ n2_; (try clear hb); (try clear hb2); (try clear hk); (try clear hi); have hcz22_0 : w21.cell? ⟨gb10001, 0, none⟩ = some (.string a0_0) := (blk_cell BK10001.out 0).trans rfl; have hcz22_1 : w21.cell? ⟨gb10001, 1, none⟩ = some (.slice A0_1 l0_1.length c0_1) := (blk_cell BK10001.out 1).trans rfl; have hcz22_2 : w21.cell? ⟨gb10001, 2, none⟩ = some (.int .i64 a0_2) := (blk_cell BK10001.out 2).trans rfl; have hfz22_0 := blk_frozen BK10001.out 0; have hfz22_1 := blk_frozen BK10001.out 1; have hfz22_2 := blk_frozen BK10001.out 2) | ((with_reducible refine gate_callee (f := 37) rfl ?_); refine goesL_ (some 16) rfl rfl Try.func37 (by kernel_rfl) rfl #[.agg #[.string a0_0, .slice A0_1 l0_1.length c0_1, .int .i64 a0_2]] rfl (by (try simp only [List.map_toArray, List.map_cons, List.map_nil]); first | done | rfl | (simp only [List.length_drop, List.length_take]; rfl)) ?_; (with_reducible refine (laws_toNode.calls k a0_0 _ _ l0_1 a0_2 t10009 t10010 t10013 _ ?side1 ?side2 A9.out).mono ?_); (case side1 => repeat (first | exact (Kd.C_below HR0_1.out HB.out) | (with_reducible refine Kd.C_alloc ?_ _) | (with_reducible refine Kd.C_drewN ?_ _) | (with_reducible refine Kd.C_drew ?_))); (case side2 => exact HC0_1.out); rintro e w23 ⟨v10011, rfl, ho0, hb⟩; refine ⟨_, rfl, ?_⟩; have n0_ := Aside0.mk (Kd.R_elder' (by (with_reducible repeat (first | apply Kd.R_alloc | apply Kd.R_drewN | apply Kd.R_drew)); exact HO10006.out) (Kd.R_base ho0) hb); have n1_ := Aside0.mk (Kd.R_lower (Kd.R_new' ho0 (Kd.R_lt (by (with_reducible repeat (first | apply Kd.R_alloc | apply Kd.R_drewN | apply Kd.R_drew)); exact HO10006.out))) (below_size (by repeat (first | (with_reducible first | exact HB.out | apply below_alloc | apply pw_below_drewN | apply below_drew1 | refine below_set ?_ GE10001.out) | exact HB.out)))); have n2_ := Aside0.mk (blk_below (g := gb10001) (o := .cells #[.string a0_0, .slice A0_1 l0_1.length c0_1, .int .i64 a0_2] 39 (0, 0)) (by (with_reducible repeat (first | refine blk_drewN ?_ _ | refine blk_drew ?_ | refine blk_alloc ?_ _)); exact BK10001.out) hb); have n3_ := Aside0.mk (below_step (by repeat (first | (with_reducible first | exact HB.out | apply below_alloc | apply pw_below_drewN | apply below_drew1 | refine below_set ?_ GE10001.out) | exact HB.out)) hb); clear HO10006; clear BK10001; clear HB; have HO10006 := n0_; have HO10012 := n1_; have BK10001 := n2_; have HB := n3_; clear n0_ n1_ n2_ n3_; (try clear hb); (try clear hb2); (try clear hk); (try clear hi); (try clear ho0)) | ((with_reducible refine gate_dst (N := 5) rfl ?_); refine box_event ?hg (N := 5) ?hd (cs := #[.string (⟨#[]⟩ : ByteArray), .slice none 0 0, .int .i64 0]) (t := 42) ?hr ?_; (case hd => rfl); (case hg => rfl); (case hr => first | (go_simp; done) | (go_simp; rfl)); intro gb10014 hg w24 hbox hb; have n0_ := Aside0.mk (Kd.R_below (by (with_reducible repeat (first | apply Kd.R_alloc | apply Kd.R_drewN | apply Kd.R_drew)); exact HO10006.out) hb); have n1_ := Aside0.mk (Kd.R_below (by (with_reducible repeat (first | apply Kd.R_alloc | apply Kd.R_drewN | apply Kd.R_drew)); exact HO10012.out) hb); have n2_ := Aside0.mk (blk_below (g := gb10001) (o := .cells #[.string a0_0, .slice A0_1 l0_1.length c0_1, .int .i64 a0_2] 39 (0, 0)) (by (with_reducible repeat (first | refine blk_drewN ?_ _ | refine blk_drew ?_ | refine blk_alloc ?_ _)); exact BK10001.out) hb); have n3_ := Aside0.mk (below_step (by repeat (first | (with_reducible first | exact HB.out | apply below_alloc | apply pw_below_drewN | apply below_drew1 | refine below_set ?_ GE10001.out) | exact HB.out)) hb); have n4_ := Aside0.mk (hbox); have n5_ := Aside0.mk ((by rw [hg]; exact (below_size (by repeat (first | (with_reducible first | exact HB.out | apply below_alloc | apply pw_below_drewN | apply below_drew1 | refine below_set ?_ GE10001.out) | exact HB.out))) : w.heap.size ≤ gb10014)); have n6_ := Aside0.mk ((by rw [hg]; exact (below_size (by repeat (first | (with_reducible first | exact HB.out | apply below_alloc | apply pw_below_drewN | apply below_drew1 | refine below_set ?_ GE10001.out) | exact HB.out))) : w.heap.size ≤ gb10014)); have n7_ := Aside0.mk ((by rw [hg]; exact Nat.ne_of_lt (blk_lt (g := gb10001) (o := .cells #[.string a0_0, .slice A0_1 l0_1.length c0_1, .int .i64 a0_2] 39 (0, 0)) (by (with_reducible repeat (first | refine blk_drewN ?_ _ | refine blk_drew ?_ | refine blk_alloc ?_ _)); exact BK10001.out)) : gb10001 ≠ gb10014)); have n8_ := Aside0.mk ((by rw [hg]; exact Nat.ne_of_gt (blk_lt (g := gb10001) (o := .cells #[.string a0_0, .slice A0_1 l0_1.length c0_1, .int .i64 a0_2] 39 (0, 0)) (by (with_reducible repeat (first | refine blk_drewN ?_ _ | refine blk_drew ?_ | refine blk_alloc ?_ _)); exact BK10001.out)) : gb10014 ≠ gb10001)); clear HO10006; clear HO10012; clear BK10001; clear HB; have HO10006 := n0_; have HO10012 := n1_; have BK10001 := n2_; have HB := n3_; have BK10014 := n4_; have GW10014 := n5_; have GE10014 := n6_; have NB10001_10014 := n7_; have NB10014_10001 := n8_; clear n0_ n1_ n2_ n3_ n4_ n5_ n6_ n7_ n8_; clear hb hbox hg; have hnb25 := NB10014_10001.out; have hnc25 := NB10001_10014.out; have hcz26_0 : w24.cell? ⟨gb10014, 0, none⟩ = some (.string (⟨#[]⟩ : ByteArray)) := (blk_cell BK10014.out 0).trans rfl; have hcz26_1 : w24.cell? ⟨gb10014, 1, none⟩ = some (.slice none 0 0) := (blk_cell BK10014.out 1).trans rfl; have hcz26_2 : w24.cell? ⟨gb10014, 2, none⟩ = some (.int .i64 0) := (blk_cell BK10014.out 2).trans rfl; have hfz26_0 := blk_frozen BK10014.out 0; have hfz26_1 := blk_frozen BK10014.out 1; have hfz26_2 := blk_frozen BK10014.out 2; obtain ⟨Ao27, co27, eo27⟩ := Kd.R_slice HO10012.out; subst eo27) | ((with_reducible refine gate_callee (f := 38) rfl ?_); refine goesL_ (some 18) rfl rfl Try.func38 (by kernel_rfl) rfl #[.agg #[.string t10009, .slice Ao27 t10010.length co27, .int .i64 t10013]] rfl (by (try simp only [List.map_toArray, List.map_cons, List.map_nil]); first | done | rfl | (simp only [List.length_drop, List.length_take]; rfl)) ?_; (with_reducible refine (impl_NodeOk.calls k t10009 _ _ t10010 t10013 t10015 _ ?side1 ?side2 A10.out).mono ?_); (case side1 => refine (Kd.R_reads' (e := 3) (base := w.heap.size) (ok := fun k_ => (True ∧ some k_ ≠ (.slice Ao20 t10004.length co20 : Value).ownBlock)) (n := t10010.length) (c := co27) ?_).2.2; exact (by (with_reducible repeat (first | apply Kd.R_alloc | apply Kd.R_drewN | apply Kd.R_drew)); exact (Kd.R_mono (Kd.R_far (p := ⟨gb10014, 2, none⟩) (Kd.R_far (p := ⟨gb10014, 1, none⟩) (Kd.R_far (p := ⟨gb10014, 0, none⟩) (Kd.R_types HO10012.out BK10014.out (by decide)) (fun _ hk => hk.2) (.string t10009)) (fun _ hk => hk.2) (.slice Ao27 t10010.length co27)) (fun _ hk => hk.2) (.int .i64 t10013)) (fun _ h_ => h_.1)))); (case side2 => exact (Kd.R_reads' HO10012.out).2.1); rintro e w28 ⟨rfl, hb⟩; refine ⟨_, rfl, ?_⟩; have n0_ := Aside0.mk (Kd.R_below (by (with_reducible repeat (first | apply Kd.R_alloc | apply Kd.R_drewN | apply Kd.R_drew)); exact (Kd.R_mono (Kd.R_far (p := ⟨gb10014, 2, none⟩) (Kd.R_far (p := ⟨gb10014, 1, none⟩) (Kd.R_far (p := ⟨gb10014, 0, none⟩) (Kd.R_types HO10006.out BK10014.out (by decide)) (fun _ hk => hk.2) (.string t10009)) (fun _ hk => hk.2) (.slice Ao27 t10010.length co27)) (fun _ hk => hk.2) (.int .i64 t10013)) (fun _ h_ => h_.1))) hb); have n1_ := Aside0.mk (Kd.R_below (by (with_reducible repeat (first | apply Kd.R_alloc | apply Kd.R_drewN | apply Kd.R_drew)); exact (Kd.R_mono (Kd.R_far (p := ⟨gb10014, 2, none⟩) (Kd.R_far (p := ⟨gb10014, 1, none⟩) (Kd.R_far (p := ⟨gb10014, 0, none⟩) (Kd.R_types HO10012.out BK10014.out (by decide)) (fun _ hk => hk.2) (.string t10009)) (fun _ hk => hk.2) (.slice Ao27 t10010.length co27)) (fun _ hk => hk.2) (.int .i64 t10013)) (fun _ h_ => h_.1))) hb); have n2_ := Aside0.mk (blk_below (g := gb10001) (o := .cells #[.string a0_0, .slice A0_1 l0_1.length c0_1, .int .i64 a0_2] 39 (0, 0)) (by (with_reducible repeat (first | refine blk_drewN ?_ _ | refine blk_drew ?_ | refine blk_alloc ?_ _)); refine blk_far ?_ NB10001_10014.out _; (with_reducible repeat (first | refine blk_drewN ?_ _ | refine blk_drew ?_ | refine blk_alloc ?_ _)); refine blk_far ?_ NB10001_10014.out _; (with_reducible repeat (first | refine blk_drewN ?_ _ | refine blk_drew ?_ | refine blk_alloc ?_ _)); refine blk_far ?_ NB10001_10014.out _; (with_reducible repeat (first | refine blk_drewN ?_ _ | refine blk_drew ?_ | refine blk_alloc ?_ _)); exact BK10001.out) hb); have n3_ := Aside0.mk (blk_below (g := gb10014) (o := .cells #[.string t10009, .slice Ao27 t10010.length co27, .int .i64 t10013] 42 (0, 0)) (by (with_reducible repeat (first | refine blk_drewN ?_ _ | refine blk_drew ?_ | refine blk_alloc ?_ _)); refine blk_put (cs := #[.string t10009, .slice Ao27 t10010.length co27, .int .i64 0]) ?_ 2 _ rfl; (with_reducible repeat (first | refine blk_drewN ?_ _ | refine blk_drew ?_ | refine blk_alloc ?_ _)); refine blk_put (cs := #[.string t10009, .slice none 0 0, .int .i64 0]) ?_ 1 _ rfl; (with_reducible repeat (first | refine blk_drewN ?_ _ | refine blk_drew ?_ | refine blk_alloc ?_ _)); refine blk_put (cs := #[.string (⟨#[]⟩ : ByteArray), .slice none 0 0, .int .i64 0]) ?_ 0 _ rfl; (with_reducible repeat (first | refine blk_drewN ?_ _ | refine blk_drew ?_ | refine blk_alloc ?_ _)); exact BK10014.out) hb); have n4_ := Aside0.mk (below_step (by repeat (first | (with_reducible first | exact HB.out | apply below_alloc | apply pw_below_drewN | apply below_drew1 | refine below_set ?_ GE10001.out | refine below_set ?_ GE10014.out) | exact HB.out)) hb); clear HO10006; clear HO10012; clear BK10001; clear BK10014; clear HB; have HO10006 := n0_; have HO10012 := n1_; have BK10001 := n2_; have BK10014 := n3_; have HB := n4_; clear n0_ n1_ n2_ n3_ n4_; (try clear hb); (try clear hb2); (try clear hk); (try clear hi)))
        have n0_ := Aside0.mk (Kd.R_drew HO10006.out)
        have n1_ := Aside0.mk (Kd.R_drew HO10012.out)
        have n2_ := Aside0.mk (blk_drew BK10001.out)
        have n3_ := Aside0.mk (blk_drew BK10014.out)
        have n4_ := Aside0.mk (below_drew1 HB.out)
        clear HO10006
        clear HO10012
        clear BK10001
        clear BK10014
        clear HB
        have HO10006 := n0_
        have HO10012 := n1_
        have BK10001 := n2_
        have BK10014 := n3_
        have HB := n4_
        clear n0_ n1_ n2_ n3_ n4_
        refine start_ (n := 5) (S := fun w' => w'.cell? ⟨gb10014, 0, none⟩ = some (.string t10009) ∧ w'.cell? ⟨gb10014, 1, none⟩ = some (.slice Ao27 t10010.length co27) ∧ w'.cell? ⟨gb10014, 2, none⟩ = some (.int .i64 t10013) ∧ w'.cell? ⟨gb10001, 0, none⟩ = some (.string a0_0) ∧ w'.cell? ⟨gb10001, 1, none⟩ = some (.slice A0_1 l0_1.length c0_1) ∧ w'.cell? ⟨gb10001, 2, none⟩ = some (.int .i64 a0_2)) (ds := []) #[false, false, false, false, false] (by kernel_rfl) rfl rfl ⟨(blk_cell BK10014.out 0).trans rfl, (blk_cell BK10014.out 1).trans rfl, (blk_cell BK10014.out 2).trans rfl, (blk_cell BK10001.out 0).trans rfl, (blk_cell BK10001.out 1).trans rfl, (blk_cell BK10001.out 2).trans rfl⟩ (fun hHeld => ?_)
        generalize w28.drew = w29 at HO10006 HO10012 BK10001 BK10014 HB hHeld ⊢
        refine take_ (i := 0) (N := some 22) (v := ?_) (a' := ?_) #[true, false, false, false, false] rfl rfl (by kernel_rfl) (fun _ _ _ h => h) (Or.inl ⟨by rfl, ?_⟩) hHeld ?_ ?_
        rotate_left
        · rintro w' ⟨s0, s1, s2, s3, s4, s5⟩
          go_simp
          with_reducible rfl
        rotate_left
        · simp only [Act.put, List.setIfInBounds_toArray, List.set_cons_zero, List.set_cons_succ, i64_w, i32_w]
          rfl
        refine take_ (i := 1) (N := some 23) (v := ?_) (a' := ?_) #[true, true, false, false, false] rfl rfl (by kernel_rfl) (fun _ _ _ h => h) (Or.inl ⟨by rfl, ?_⟩) hHeld ?_ ?_
        rotate_left
        · rintro w' ⟨s0, s1, s2, s3, s4, s5⟩
          go_simp
          with_reducible rfl
        rotate_left
        · simp only [Act.put, List.setIfInBounds_toArray, List.set_cons_zero, List.set_cons_succ, i64_w, i32_w]
          rfl
        refine one_ (i := 2) (N := some 24) #[true, true, true, false, false] rfl rfl (by kernel_rfl) (by decide) (fun K hK => ?_)
        refine goes_ Try.func37 (by kernel_rfl) rfl #[.agg #[.string a0_0, .slice A0_1 l0_1.length c0_1, .int .i64 a0_2]] (by rfl) rfl rfl (by (try simp only [List.map_toArray, List.map_cons, List.map_nil]); first | done | rfl | (simp only [List.length_drop, List.length_take]; rfl)) ?_
        with_reducible refine (laws_toNode.calls k a0_0 _ _ l0_1 a0_2 t10016 t10017 t10020 _ ?side1 ?side2 A12.out).mono ?_
        (case side1 => repeat (first | exact (Kd.C_below HR0_1.out HB.out) | (with_reducible refine Kd.C_alloc ?_ _) | (with_reducible refine Kd.C_drewN ?_ _) | (with_reducible refine Kd.C_drew ?_)))
        (case side2 => exact HC0_1.out)
        rintro e w30 ⟨v10018, rfl, ho0, hb⟩
        refine ⟨_, rfl, ?_⟩
        have n0_ := Aside0.mk (Kd.R_elder' (by (with_reducible repeat (first | apply Kd.R_alloc | apply Kd.R_drewN | apply Kd.R_drew)); exact HO10006.out) (Kd.R_base ho0) hb)
        have n1_ := Aside0.mk (Kd.R_elder' (by (with_reducible repeat (first | apply Kd.R_alloc | apply Kd.R_drewN | apply Kd.R_drew)); exact HO10012.out) (Kd.R_base ho0) hb)
        have n2_ := Aside0.mk (Kd.R_lower (Kd.R_new' (Kd.R_new' ho0 (Kd.R_lt (by (with_reducible repeat (first | apply Kd.R_alloc | apply Kd.R_drewN | apply Kd.R_drew)); exact HO10006.out))) (Kd.R_lt (by (with_reducible repeat (first | apply Kd.R_alloc | apply Kd.R_drewN | apply Kd.R_drew)); exact HO10012.out))) (below_size (by repeat (first | (with_reducible first | exact HB.out | apply below_alloc | apply pw_below_drewN | apply below_drew1 | refine below_set ?_ GE10001.out | refine below_set ?_ GE10014.out) | exact HB.out))))
        have n3_ := Aside0.mk (blk_below (g := gb10001) (o := .cells #[.string a0_0, .slice A0_1 l0_1.length c0_1, .int .i64 a0_2] 39 (0, 0)) (by (with_reducible repeat (first | refine blk_drewN ?_ _ | refine blk_drew ?_ | refine blk_alloc ?_ _)); exact BK10001.out) hb)
        have n4_ := Aside0.mk (blk_below (g := gb10014) (o := .cells #[.string t10009, .slice Ao27 t10010.length co27, .int .i64 t10013] 42 (0, 0)) (by (with_reducible repeat (first | refine blk_drewN ?_ _ | refine blk_drew ?_ | refine blk_alloc ?_ _)); exact BK10014.out) hb)
        have n5_ := Aside0.mk (below_step (by repeat (first | (with_reducible first | exact HB.out | apply below_alloc | apply pw_below_drewN | apply below_drew1 | refine below_set ?_ GE10001.out | refine below_set ?_ GE10014.out) | exact HB.out)) hb)
        clear HO10006
        clear HO10012
        clear BK10001
        clear BK10014
        clear HB
        have HO10006 := n0_
        have HO10012 := n1_
        have HO10019 := n2_
        have BK10001 := n3_
        have BK10014 := n4_
        have HB := n5_
        clear n0_ n1_ n2_ n3_ n4_ n5_
        (try clear hb)
        (try clear hb2)
        (try clear hk)
        (try clear hi)
        (try clear ho0)
        obtain ⟨Ao31, co31, eo31⟩ := Kd.R_slice HO10019.out
        (first | subst eo31 | (injection eo31 with f1_ f2_ f3_; have f4_ := f1_.symm; have f5_ := f3_.symm; clear f1_ f2_ f3_; subst f4_; subst f5_))
        refine hK.out _ _ ⟨(blk_cell BK10014.out 0).trans rfl, (blk_cell BK10014.out 1).trans rfl, (blk_cell BK10014.out 2).trans rfl, (blk_cell BK10001.out 0).trans rfl, (blk_cell BK10001.out 1).trans rfl, (blk_cell BK10001.out 2).trans rfl⟩ (fun hHeld => ?_)
        clear hK K
        refine norm_ (a' := ?_) ?_ ?_
        rotate_left
        · show Act.put _ (some 24) _ = _
          simp only [Act.put, List.setIfInBounds_toArray, List.set_cons_zero, List.set_cons_succ, i64_w, i32_w]
          rfl
        refine one_ (i := 3) (N := some 25) #[true, true, true, true, false] rfl rfl (by kernel_rfl) (by decide) (fun K hK => ?_)
        refine goes_ Try.func39 (by kernel_rfl) rfl #[.agg #[.string t10009, .slice Ao27 t10010.length co27, .int .i64 t10013], .agg #[.string t10016, .slice Ao31 t10017.length co31, .int .i64 t10020]] (by rfl) rfl rfl (by (try simp only [List.map_toArray, List.map_cons, List.map_nil]); first | done | rfl | (simp only [List.length_drop, List.length_take]; rfl)) ?_
        with_reducible refine (laws_eqNode.calls k t10009 _ _ t10010 t10013 t10016 _ _ t10017 t10020 true _ ?side1 ?side2 ?side3 ?side4 A13.out).mono ?_
        (case side1 => repeat (first | exact (Kd.R_reads' HO10012.out).2.2 | (with_reducible refine Kd.C_alloc ?_ _) | (with_reducible refine Kd.C_drewN ?_ _) | (with_reducible refine Kd.C_drew ?_)))
        (case side2 => exact (Kd.R_reads' HO10012.out).2.1)
        (case side3 => repeat (first | exact (Kd.R_reads' HO10019.out).2.2 | (with_reducible refine Kd.C_alloc ?_ _) | (with_reducible refine Kd.C_drewN ?_ _) | (with_reducible refine Kd.C_drew ?_)))
        (case side4 => exact (Kd.R_reads' HO10019.out).2.1)
        rintro e w32 ⟨rfl, hb⟩
        refine ⟨_, rfl, ?_⟩
        have n0_ := Aside0.mk (Kd.R_below (by (with_reducible repeat (first | apply Kd.R_alloc | apply Kd.R_drewN | apply Kd.R_drew)); exact HO10006.out) hb)
        have n1_ := Aside0.mk (Kd.R_below (by (with_reducible repeat (first | apply Kd.R_alloc | apply Kd.R_drewN | apply Kd.R_drew)); exact HO10012.out) hb)
        have n2_ := Aside0.mk (Kd.R_below (by (with_reducible repeat (first | apply Kd.R_alloc | apply Kd.R_drewN | apply Kd.R_drew)); exact HO10019.out) hb)
        have n3_ := Aside0.mk (blk_below (g := gb10001) (o := .cells #[.string a0_0, .slice A0_1 l0_1.length c0_1, .int .i64 a0_2] 39 (0, 0)) (by (with_reducible repeat (first | refine blk_drewN ?_ _ | refine blk_drew ?_ | refine blk_alloc ?_ _)); exact BK10001.out) hb)
        have n4_ := Aside0.mk (blk_below (g := gb10014) (o := .cells #[.string t10009, .slice Ao27 t10010.length co27, .int .i64 t10013] 42 (0, 0)) (by (with_reducible repeat (first | refine blk_drewN ?_ _ | refine blk_drew ?_ | refine blk_alloc ?_ _)); exact BK10014.out) hb)
        have n5_ := Aside0.mk (below_step (by repeat (first | (with_reducible first | exact HB.out | apply below_alloc | apply pw_below_drewN | apply below_drew1 | refine below_set ?_ GE10001.out | refine below_set ?_ GE10014.out) | exact HB.out)) hb)
        clear HO10006
        clear HO10012
        clear HO10019
        clear BK10001
        clear BK10014
        clear HB
        have HO10006 := n0_
        have HO10012 := n1_
        have HO10019 := n2_
        have BK10001 := n3_
        have BK10014 := n4_
        have HB := n5_
        clear n0_ n1_ n2_ n3_ n4_ n5_
        (try clear hb)
        (try clear hb2)
        (try clear hk)
        (try clear hi)
        refine hK.out _ _ ⟨(blk_cell BK10014.out 0).trans rfl, (blk_cell BK10014.out 1).trans rfl, (blk_cell BK10014.out 2).trans rfl, (blk_cell BK10001.out 0).trans rfl, (blk_cell BK10001.out 1).trans rfl, (blk_cell BK10001.out 2).trans rfl⟩ (fun hHeld => ?_)
        clear hK K
        refine norm_ (a' := ?_) ?_ ?_
        rotate_left
        · show Act.put _ (some 25) _ = _
          simp only [Act.put, List.setIfInBounds_toArray, List.set_cons_zero, List.set_cons_succ, i64_w, i32_w]
          rfl
        refine pure_ (i := 4) (N := some 26) (v := ?_) (a' := ?_) #[true, true, true, true, true] rfl rfl (by kernel_rfl) (fun _ _ _ h => h) (Or.inl ⟨by rfl, ?_⟩) ?_ ?_
        rotate_left
        · intro w'
          go_simp
          with_reducible rfl
        rotate_left
        · simp only [Act.put, List.setIfInBounds_toArray, List.set_cons_zero, List.set_cons_succ, i64_w, i32_w]
          rfl
        refine done_ (by kernel_rfl) ?_
        try go_wp2
        go_ret
        exact ⟨by first | rfl | (simp [errW_none, errW_some] <;> rfl) | (simp [*, errW_none, errW_some] <;> rfl), by repeat (first | (with_reducible first | exact HB.out | apply below_alloc | apply pw_below_drewN | apply below_drew1 | refine below_set ?_ GE10001.out | refine below_set ?_ GE10014.out) | exact HB.out)⟩
      · replace c14 := Bool.eq_false_iff.mpr c14
        subst c14
        exact absurd H (by simp)

end Go.Proofs.Ytammpmadchekeaa.Pr
