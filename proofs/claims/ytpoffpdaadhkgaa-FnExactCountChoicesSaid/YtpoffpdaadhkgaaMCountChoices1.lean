/- The texts of one claim, put together by a program of this session. -/
import Derived.Test.YtpoffpdaadhkgaaBCcc1x1
import Derived.Test.YtpoffpdaadhkgaaBCcc1x10
import Derived.Test.YtpoffpdaadhkgaaBCcc1x2
import Derived.Test.YtpoffpdaadhkgaaBCcc1x8
namespace Go.Proofs.Ytpoffpdaadhkgaa.Pr
open Go.RowKit Go.Proofs.YtpoffpdaadhkgaaW.PrintWords Go.Proofs.YtpoffpdaadhkgaaW.PrintLast Go.Proofs.YtpoffpdaadhkgaaW.PrintMore
attribute [local go_sem] max2_int min2_int max_two min_two max_three min_three max_four min_four
set_option linter.unusedVariables false
set_option linter.unusedSimpArgs false

/-! ### laws_FnExactCountChoices: function 12 -/
def laws_FnExactCountChoices.f (k : Nat) (l0_0 : List (S159)) (l0_1 : List (S165)) (a0_2 : Int) : Option (Bool) := (laws_szShow.f k l0_0 l0_1 a0_2 1048576).bind fun t12002 => (if t12002 < 0 then (some true) else ((laws_toShow.f k l0_0 l0_1 a0_2).bind fun bt12003 => ((spec_CountChoices.f k bt12003.1 bt12003.2.1 bt12003.2.2).bind fun t12010 => ((laws_toShow.f k l0_0 l0_1 a0_2).bind fun bt12011 => ((impl_CountChoices.f k bt12011.1 bt12011.2.1 bt12011.2.2).bind fun t12019 => (if t12019 = t12010 then ((laws_toShow.f k l0_0 l0_1 a0_2).bind fun bt12020 => ((laws_eqShow.f k bt12011.1 bt12011.2.1 bt12011.2.2 bt12020.1 bt12020.2.1 bt12020.2.2).bind fun t12027 => (if t12027 = true then (some true) else (some false)))) else (some false)))))))
set_option maxHeartbeats 8000000 in
set_option maxRecDepth 100000 in
theorem laws_FnExactCountChoices.calls (k : Nat) (A0_0 : Option Addr) (c0_0 : Nat) (l0_0 : List (S159)) (A0_1 : Option Addr) (c0_1 : Nat) (l0_1 : List (S165)) (a0_2 : Int) (w : World) (hr0_0 : Kd.C k159 w A0_0 l0_0.length l0_0) (hc0_0 : l0_0.length ≤ c0_0) (hr0_1 : Kd.C k165 w A0_1 l0_1.length l0_1) (hc0_1 : l0_1.length ≤ c0_1) (h : laws_FnExactCountChoices.f k l0_0 l0_1 a0_2 = some true) :
    Calls Try.prog 12 #[.agg #[.slice A0_0 l0_0.length c0_0, .slice A0_1 l0_1.length c0_1, .int .i64 a0_2]] w fun e w' => e = .returned (.bool true) ∧ Below w.heap.size w w' := by
  have hu60 := Try.underlying60
  have hu66 := Try.underlying66
  have HR0_0 := Aside0.mk hr0_0
  have HC0_0 := Aside0.mk hc0_0
  clear hr0_0 hc0_0
  have HR0_1 := Aside0.mk hr0_1
  have HC0_1 := Aside0.mk hc0_1
  clear hr0_1 hc0_1
  have HB := Aside0.mk (Below.refl w.heap.size w)
  have H : ((laws_szShow.f k l0_0 l0_1 a0_2 1048576).bind fun t12002 => (if t12002 < 0 then (some true) else ((laws_toShow.f k l0_0 l0_1 a0_2).bind fun bt12003 => ((spec_CountChoices.f k bt12003.1 bt12003.2.1 bt12003.2.2).bind fun t12010 => ((laws_toShow.f k l0_0 l0_1 a0_2).bind fun bt12011 => ((impl_CountChoices.f k bt12011.1 bt12011.2.1 bt12011.2.2).bind fun t12019 => (if t12019 = t12010 then ((laws_toShow.f k l0_0 l0_1 a0_2).bind fun bt12020 => ((laws_eqShow.f k bt12011.1 bt12011.2.1 bt12011.2.2 bt12020.1 bt12020.2.1 bt12020.2.2).bind fun t12027 => (if t12027 = true then (some true) else (some false)))) else (some false)))))))) = some true := h
  clear h
  replace H := Option.bind_eq_some_iff.mp H
  obtain ⟨t12002, A20, H⟩ := H
  replace H : (if t12002 < 0 then (some true) else ((laws_toShow.f k l0_0 l0_1 a0_2).bind fun bt12003 => ((spec_CountChoices.f k bt12003.1 bt12003.2.1 bt12003.2.2).bind fun t12010 => ((laws_toShow.f k l0_0 l0_1 a0_2).bind fun bt12011 => ((impl_CountChoices.f k bt12011.1 bt12011.2.1 bt12011.2.2).bind fun t12019 => (if t12019 = t12010 then ((laws_toShow.f k l0_0 l0_1 a0_2).bind fun bt12020 => ((laws_eqShow.f k bt12011.1 bt12011.2.1 bt12011.2.2 bt12020.1 bt12020.2.1 bt12020.2.2).bind fun t12027 => (if t12027 = true then (some true) else (some false)))) else (some false))))))) = some true := H
  have A2 := Aside0.mk A20
  clear A20
  by_cases c3 : t12002 < 0
  · rw [if_pos c3] at H
    have c3b0 : decide (t12002 < 0) = true := decide_eq_true c3
    clear c3
    clear H
    go_enter Try.func12, Try.ntmps12
    go_wp2_with (first | ((with_reducible refine gate_dst (N := 1) rfl ?_); refine box_event ?hg (N := 1) ?hd (cs := #[.slice A0_0 l0_0.length c0_0, .slice A0_1 l0_1.length c0_1, .int .i64 a0_2]) (t := 60) ?hr ?_; (case hd => rfl); (case hg => rfl); (case hr => first | (go_simp; done) | (go_simp; rfl)); intro gb12001 hg w4 hbox hb; have n0_ := Aside0.mk (below_step (by repeat (first | (with_reducible first | exact HB.out | apply below_alloc | apply pw_below_drewN | apply below_drew1) | exact HB.out)) hb); have n1_ := Aside0.mk (hbox); have n2_ := Aside0.mk ((by rw [hg]; exact (below_size (by repeat (first | (with_reducible first | exact HB.out | apply below_alloc | apply pw_below_drewN | apply below_drew1) | exact HB.out))) : w.heap.size ≤ gb12001)); have n3_ := Aside0.mk ((by rw [hg]; exact (below_size (by repeat (first | (with_reducible first | exact HB.out | apply below_alloc | apply pw_below_drewN | apply below_drew1) | exact HB.out))) : w.heap.size ≤ gb12001)); clear HB; have HB := n0_; have BK12001 := n1_; have GW12001 := n2_; have GE12001 := n3_; clear n0_ n1_ n2_ n3_; clear hb hbox hg; have hcz5_0 : w4.cell? ⟨gb12001, 0, none⟩ = some (.slice A0_0 l0_0.length c0_0) := (blk_cell BK12001.out 0).trans rfl; have hcz5_1 : w4.cell? ⟨gb12001, 1, none⟩ = some (.slice A0_1 l0_1.length c0_1) := (blk_cell BK12001.out 1).trans rfl; have hcz5_2 : w4.cell? ⟨gb12001, 2, none⟩ = some (.int .i64 a0_2) := (blk_cell BK12001.out 2).trans rfl; have hfz5_0 := blk_frozen BK12001.out 0; have hfz5_1 := blk_frozen BK12001.out 1; have hfz5_2 := blk_frozen BK12001.out 2) | ((with_reducible refine gate_callee (f := 41) rfl ?_); refine goesL_ (some 9) rfl rfl Try.func41 (by kernel_rfl) rfl #[.agg #[.slice A0_0 l0_0.length c0_0, .slice A0_1 l0_1.length c0_1, .int .i64 a0_2], .int .i64 1048576] rfl (by (try simp only [List.map_toArray, List.map_cons, List.map_nil]); first | done | rfl | (simp only [List.length_drop, List.length_take]; rfl)) ?_; (with_reducible refine (laws_szShow.calls k _ _ l0_0 _ _ l0_1 a0_2 1048576 t12002 _ ?side1 ?side2 ?side3 ?side4 A2.out).mono ?_); (case side1 => repeat (first | exact (Kd.C_below HR0_0.out HB.out) | (with_reducible refine Kd.C_alloc ?_ _) | (with_reducible refine Kd.C_drewN ?_ _) | (with_reducible refine Kd.C_drew ?_))); (case side2 => exact HC0_0.out); (case side3 => repeat (first | exact (Kd.C_below HR0_1.out HB.out) | (with_reducible refine Kd.C_alloc ?_ _) | (with_reducible refine Kd.C_drewN ?_ _) | (with_reducible refine Kd.C_drew ?_))); (case side4 => exact HC0_1.out); rintro e w6 ⟨rfl, hb⟩; refine ⟨_, rfl, ?_⟩; have n0_ := Aside0.mk (blk_below (g := gb12001) (o := .cells #[.slice A0_0 l0_0.length c0_0, .slice A0_1 l0_1.length c0_1, .int .i64 a0_2] 60 (0, 0)) (by (with_reducible repeat (first | refine blk_drewN ?_ _ | refine blk_drew ?_ | refine blk_alloc ?_ _)); exact BK12001.out) hb); have n1_ := Aside0.mk (below_step (by repeat (first | (with_reducible first | exact HB.out | apply below_alloc | apply pw_below_drewN | apply below_drew1 | refine below_set ?_ GE12001.out) | exact HB.out)) hb); clear BK12001; clear HB; have BK12001 := n0_; have HB := n1_; clear n0_ n1_; (try clear hb); (try clear hb2); (try clear hk); (try clear hi)))
    go_ret
    exact ⟨by first | rfl | (simp [errW_none, errW_some] <;> rfl) | (simp [*, errW_none, errW_some] <;> rfl), by repeat (first | (with_reducible first | exact HB.out | apply below_alloc | apply pw_below_drewN | apply below_drew1 | refine below_set ?_ GE12001.out) | exact HB.out)⟩
  · rw [if_neg c3] at H
    have c3b0 : decide (t12002 < 0) = false := decide_eq_false c3
    clear c3
    replace H := Option.bind_eq_some_iff.mp H
    obtain ⟨⟨t12003, t12006, t12009⟩, A70, H⟩ := H
    replace H : ((spec_CountChoices.f k t12003 t12006 t12009).bind fun t12010 => ((laws_toShow.f k l0_0 l0_1 a0_2).bind fun bt12011 => ((impl_CountChoices.f k bt12011.1 bt12011.2.1 bt12011.2.2).bind fun t12019 => (if t12019 = t12010 then ((laws_toShow.f k l0_0 l0_1 a0_2).bind fun bt12020 => ((laws_eqShow.f k bt12011.1 bt12011.2.1 bt12011.2.2 bt12020.1 bt12020.2.1 bt12020.2.2).bind fun t12027 => (if t12027 = true then (some true) else (some false)))) else (some false))))) = some true := H
    have A7 := Aside0.mk A70
    clear A70
    replace H := Option.bind_eq_some_iff.mp H
    obtain ⟨t12010, A80, H⟩ := H
    replace H : ((laws_toShow.f k l0_0 l0_1 a0_2).bind fun bt12011 => ((impl_CountChoices.f k bt12011.1 bt12011.2.1 bt12011.2.2).bind fun t12019 => (if t12019 = t12010 then ((laws_toShow.f k l0_0 l0_1 a0_2).bind fun bt12020 => ((laws_eqShow.f k bt12011.1 bt12011.2.1 bt12011.2.2 bt12020.1 bt12020.2.1 bt12020.2.2).bind fun t12027 => (if t12027 = true then (some true) else (some false)))) else (some false)))) = some true := H
    have A8 := Aside0.mk A80
    clear A80
    replace H := Option.bind_eq_some_iff.mp H
    obtain ⟨⟨t12011, t12014, t12017⟩, A90, H⟩ := H
    replace H : ((impl_CountChoices.f k t12011 t12014 t12017).bind fun t12019 => (if t12019 = t12010 then ((laws_toShow.f k l0_0 l0_1 a0_2).bind fun bt12020 => ((laws_eqShow.f k t12011 t12014 t12017 bt12020.1 bt12020.2.1 bt12020.2.2).bind fun t12027 => (if t12027 = true then (some true) else (some false)))) else (some false))) = some true := H
    have A9 := Aside0.mk A90
    clear A90
    replace H := Option.bind_eq_some_iff.mp H
    obtain ⟨t12019, A100, H⟩ := H
    replace H : (if t12019 = t12010 then ((laws_toShow.f k l0_0 l0_1 a0_2).bind fun bt12020 => ((laws_eqShow.f k t12011 t12014 t12017 bt12020.1 bt12020.2.1 bt12020.2.2).bind fun t12027 => (if t12027 = true then (some true) else (some false)))) else (some false)) = some true := H
    have A10 := Aside0.mk A100
    clear A100
    by_cases c11 : t12019 = t12010
    · rw [if_pos c11] at H
      have c11b0 : (t12019 == t12010) = true := beq_iff_eq.mpr c11
      have c11b1 : (t12019 != t12010) = false := bne_eq_false_iff_eq.mpr c11
      clear c11
      replace H := Option.bind_eq_some_iff.mp H
      obtain ⟨⟨t12020, t12023, t12026⟩, A120, H⟩ := H
      replace H : ((laws_eqShow.f k t12011 t12014 t12017 t12020 t12023 t12026).bind fun t12027 => (if t12027 = true then (some true) else (some false))) = some true := H
      have A12 := Aside0.mk A120
      clear A120
      replace H := Option.bind_eq_some_iff.mp H
      obtain ⟨t12027, A130, H⟩ := H
      replace H : (if t12027 = true then (some true) else (some false)) = some true := H
      have A13 := Aside0.mk A130
      clear A130
      by_cases c14 : t12027 = true
      · subst c14
        have H1 : (some true) = some true := by rw [if_pos rfl] at H; first | done | exact H
        clear H
        have H := H1
        clear H1
        clear H
        go_enter Try.func12, Try.ntmps12
        try go_wp2_with (first | ((with_reducible refine gate_dst (N := 1) rfl ?_); refine box_event ?hg (N := 1) ?hd (cs := #[.slice A0_0 l0_0.length c0_0, .slice A0_1 l0_1.length c0_1, .int .i64 a0_2]) (t := 60) ?hr ?_; (case hd => rfl); (case hg => rfl); (case hr => first | (go_simp; done) | (go_simp; rfl)); intro gb12001 hg w15 hbox hb; have n0_ := Aside0.mk (below_step (by repeat (first | (with_reducible first | exact HB.out | apply below_alloc | apply pw_below_drewN | apply below_drew1) | exact HB.out)) hb); have n1_ := Aside0.mk (hbox); have n2_ := Aside0.mk ((by rw [hg]; exact (below_size (by repeat (first | (with_reducible first | exact HB.out | apply below_alloc | apply pw_below_drewN | apply below_drew1) | exact HB.out))) : w.heap.size ≤ gb12001)); have n3_ := Aside0.mk ((by rw [hg]; exact (below_size (by repeat (first | (with_reducible first | exact HB.out | apply below_alloc | apply pw_below_drewN | apply below_drew1) | exact HB.out))) : w.heap.size ≤ gb12001)); clear HB; have HB := n0_; have BK12001 := n1_; have GW12001 := n2_; have GE12001 := n3_; clear n0_ n1_ n2_ n3_; clear hb hbox hg; have hcz16_0 : w15.cell? ⟨gb12001, 0, none⟩ = some (.slice A0_0 l0_0.length c0_0) := (blk_cell BK12001.out 0).trans rfl; have hcz16_1 : w15.cell? ⟨gb12001, 1, none⟩ = some (.slice A0_1 l0_1.length c0_1) := (blk_cell BK12001.out 1).trans rfl; have hcz16_2 : w15.cell? ⟨gb12001, 2, none⟩ = some (.int .i64 a0_2) := (blk_cell BK12001.out 2).trans rfl; have hfz16_0 := blk_frozen BK12001.out 0; have hfz16_1 := blk_frozen BK12001.out 1; have hfz16_2 := blk_frozen BK12001.out 2) | ((with_reducible refine gate_callee (f := 41) rfl ?_); refine goesL_ (some 9) rfl rfl Try.func41 (by kernel_rfl) rfl #[.agg #[.slice A0_0 l0_0.length c0_0, .slice A0_1 l0_1.length c0_1, .int .i64 a0_2], .int .i64 1048576] rfl (by (try simp only [List.map_toArray, List.map_cons, List.map_nil]); first | done | rfl | (simp only [List.length_drop, List.length_take]; rfl)) ?_; (with_reducible refine (laws_szShow.calls k _ _ l0_0 _ _ l0_1 a0_2 1048576 t12002 _ ?side1 ?side2 ?side3 ?side4 A2.out).mono ?_); (case side1 => repeat (first | exact (Kd.C_below HR0_0.out HB.out) | (with_reducible refine Kd.C_alloc ?_ _) | (with_reducible refine Kd.C_drewN ?_ _) | (with_reducible refine Kd.C_drew ?_))); (case side2 => exact HC0_0.out); (case side3 => repeat (first | exact (Kd.C_below HR0_1.out HB.out) | (with_reducible refine Kd.C_alloc ?_ _) | (with_reducible refine Kd.C_drewN ?_ _) | (with_reducible refine Kd.C_drew ?_))); (case side4 => exact HC0_1.out); rintro e w17 ⟨rfl, hb⟩; refine ⟨_, rfl, ?_⟩; have n0_ := Aside0.mk (blk_below (g := gb12001) (o := .cells #[.slice A0_0 l0_0.length c0_0, .slice A0_1 l0_1.length c0_1, .int .i64 a0_2] 60 (0, 0)) (by (with_reducible repeat (first | refine blk_drewN ?_ _ | refine blk_drew ?_ | refine blk_alloc ?_ _)); exact BK12001.out) hb); have n1_ := Aside0.mk (below_step (by repeat (first | (with_reducible first | exact HB.out | apply below_alloc | apply pw_below_drewN | apply below_drew1 | refine below_set ?_ GE12001.out) | exact HB.out)) hb); clear BK12001; clear HB; have BK12001 := n0_; have HB := n1_; clear n0_ n1_; (try clear hb); (try clear hb2); (try clear hk); (try clear hi); have hcz18_0 : w17.cell? ⟨gb12001, 0, none⟩ = some (.slice A0_0 l0_0.length c0_0) := (blk_cell BK12001.out 0).trans rfl; have hcz18_1 : w17.cell? ⟨gb12001, 1, none⟩ = some (.slice A0_1 l0_1.length c0_1) := (blk_cell BK12001.out 1).trans rfl; have hcz18_2 : w17.cell? ⟨gb12001, 2, none⟩ = some (.int .i64 a0_2) := (blk_cell BK12001.out 2).trans rfl; have hfz18_0 := blk_frozen BK12001.out 0; have hfz18_1 := blk_frozen BK12001.out 1; have hfz18_2 := blk_frozen BK12001.out 2) | ((with_reducible refine gate_callee (f := 43) rfl ?_); refine goesL_ (some 13) rfl rfl Try.func43 (by kernel_rfl) rfl #[.agg #[.slice A0_0 l0_0.length c0_0, .slice A0_1 l0_1.length c0_1, .int .i64 a0_2]] rfl (by (try simp only [List.map_toArray, List.map_cons, List.map_nil]); first | done | rfl | (simp only [List.length_drop, List.length_take]; rfl)) ?_; (with_reducible refine (laws_toShow.calls k _ _ l0_0 _ _ l0_1 a0_2 t12003 t12006 t12009 _ ?side1 ?side2 ?side3 ?side4 A7.out).mono ?_); (case side1 => repeat (first | exact (Kd.C_below HR0_0.out HB.out) | (with_reducible refine Kd.C_alloc ?_ _) | (with_reducible refine Kd.C_drewN ?_ _) | (with_reducible refine Kd.C_drew ?_))); (case side2 => exact HC0_0.out); (case side3 => repeat (first | exact (Kd.C_below HR0_1.out HB.out) | (with_reducible refine Kd.C_alloc ?_ _) | (with_reducible refine Kd.C_drewN ?_ _) | (with_reducible refine Kd.C_drew ?_))); (case side4 => exact HC0_1.out); rintro e w19 ⟨v12004, v12007, rfl, ho0, ho1, hb⟩; refine ⟨_, rfl, ?_⟩; have n0_ := Aside0.mk (Kd.S_lower ho0 (below_size (by repeat (first | (with_reducible first | exact HB.out | apply below_alloc | apply pw_below_drewN | apply below_drew1 | refine below_set ?_ GE12001.out) | exact HB.out)))); have n1_ := Aside0.mk (Kd.R_lower ho1 (below_size (by repeat (first | (with_reducible first | exact HB.out | apply below_alloc | apply pw_below_drewN | apply below_drew1 | refine below_set ?_ GE12001.out) | exact HB.out)))); have n2_ := Aside0.mk (blk_below (g := gb12001) (o := .cells #[.slice A0_0 l0_0.length c0_0, .slice A0_1 l0_1.length c0_1, .int .i64 a0_2] 60 (0, 0)) (by (with_reducible repeat (first | refine blk_drewN ?_ _ | refine blk_drew ?_ | refine blk_alloc ?_ _)); exact BK12001.out) hb); have n3_ := Aside0.mk (below_step (by repeat (first | (with_reducible first | exact HB.out | apply below_alloc | apply pw_below_drewN | apply below_drew1 | refine below_set ?_ GE12001.out) | exact HB.out)) hb); clear BK12001; clear HB; have HO12005 := n0_; have HO12008 := n1_; have BK12001 := n2_; have HB := n3_; clear n0_ n1_ n2_ n3_; (try clear hb); (try clear hb2); (try clear hk); (try clear hi); (try clear ho0); (try clear ho1); obtain ⟨Ao20, co20, eo20⟩ := Kd.S_slice HO12005.out; subst eo20; obtain ⟨Ao21, co21, eo21⟩ := Kd.R_slice HO12008.out; subst eo21) | ((with_reducible refine gate_callee (f := 52) rfl ?_); refine goesL_ (some 14) rfl rfl Try.func52 (by kernel_rfl) rfl #[.agg #[.slice Ao20 t12003.length co20, .slice Ao21 t12006.length co21, .int .i64 t12009]] rfl (by (try simp only [List.map_toArray, List.map_cons, List.map_nil]); first | done | rfl | (simp only [List.length_drop, List.length_take]; rfl)) ?_; (with_reducible refine (spec_CountChoices.calls k _ _ t12003 _ _ t12006 t12009 t12010 _ ?side1 ?side2 ?side3 ?side4 A8.out).mono ?_); (case side1 => repeat (first | exact (Kd.S_reads' HO12005.out).2.2 | (with_reducible refine Kd.C_alloc ?_ _) | (with_reducible refine Kd.C_drewN ?_ _) | (with_reducible refine Kd.C_drew ?_))); (case side2 => exact (Kd.S_reads' HO12005.out).2.1); (case side3 => repeat (first | exact (Kd.R_reads' HO12008.out).2.2 | (with_reducible refine Kd.C_alloc ?_ _) | (with_reducible refine Kd.C_drewN ?_ _) | (with_reducible refine Kd.C_drew ?_))); (case side4 => exact (Kd.R_reads' HO12008.out).2.1); rintro e w22 ⟨rfl, hb⟩; refine ⟨_, rfl, ?_⟩; have n0_ := Aside0.mk (Kd.S_below (by (with_reducible repeat (first | apply Kd.S_alloc | apply Kd.S_drewN | apply Kd.S_drew)); exact HO12005.out) hb); have n1_ := Aside0.mk (Kd.R_below (by (with_reducible repeat (first | apply Kd.R_alloc | apply Kd.R_drewN | apply Kd.R_drew)); exact HO12008.out) hb); have n2_ := Aside0.mk (blk_below (g := gb12001) (o := .cells #[.slice A0_0 l0_0.length c0_0, .slice A0_1 l0_1.length c0_1, .int .i64 a0_2] 60 (0, 0)) (by (with_reducible repeat (first | refine blk_drewN ?_ _ | refine blk_drew ?_ | refine blk_alloc ?_ _)); exact BK12001.out) hb); have n3_ := Aside0.mk (below_step (by repeat (first | (with_reducible first | exact HB.out | apply below_alloc | apply pw_below_drewN | apply below_drew1 | refine below_set ?_ GE12001.out) | exact HB.out)) hb); clear HO12005; clear HO12008; clear BK12001; clear HB; have HO12005 := n0_; have HO12008 := n1_; have BK12001 := n2_; have HB := n3_; clear n0_ n1_ n2_ n3_; (try clear hb); (try clear hb2); (try clear hk); (try clear hi); have hcz23_0 : w22.cell? ⟨gb12001, 0, none⟩ = some (.slice A0_0 l0_0.length c0_0) := (blk_cell BK12001.out 0).trans rfl; have hcz23_1 : w22.cell? ⟨gb12001, 1, none⟩ = some (.slice A0_1 l0_1.length c0_1) := (blk_cell BK12001.out 1).trans rfl; have hcz23_2 : w22.cell? ⟨gb12001, 2, none⟩ = some (.int .i64 a0_2) := (blk_cell BK12001.out 2).trans rfl; have hfz23_0 := blk_frozen BK12001.out 0; have hfz23_1 := blk_frozen BK12001.out 1; have hfz23_2 := blk_frozen BK12001.out 2) | ((with_reducible refine gate_callee (f := 43) rfl ?_); refine goesL_ (some 16) rfl rfl Try.func43 (by kernel_rfl) rfl #[.agg #[.slice A0_0 l0_0.length c0_0, .slice A0_1 l0_1.length c0_1, .int .i64 a0_2]] rfl (by (try simp only [List.map_toArray, List.map_cons, List.map_nil]); first | done | rfl | (simp only [List.length_drop, List.length_take]; rfl)) ?_; (with_reducible refine (laws_toShow.calls k _ _ l0_0 _ _ l0_1 a0_2 t12011 t12014 t12017 _ ?side1 ?side2 ?side3 ?side4 A9.out).mono ?_); (case side1 => repeat (first | exact (Kd.C_below HR0_0.out HB.out) | (with_reducible refine Kd.C_alloc ?_ _) | (with_reducible refine Kd.C_drewN ?_ _) | (with_reducible refine Kd.C_drew ?_))); (case side2 => exact HC0_0.out); (case side3 => repeat (first | exact (Kd.C_below HR0_1.out HB.out) | (with_reducible refine Kd.C_alloc ?_ _) | (with_reducible refine Kd.C_drewN ?_ _) | (with_reducible refine Kd.C_drew ?_))); (case side4 => exact HC0_1.out); rintro e w24 ⟨v12012, v12015, rfl, ho0, ho1, hb⟩; refine ⟨_, rfl, ?_⟩; have n0_ := Aside0.mk (Kd.S_elder' (by (with_reducible repeat (first | apply Kd.S_alloc | apply Kd.S_drewN | apply Kd.S_drew)); exact HO12005.out) (Kd.S_base ho0) hb); have n1_ := Aside0.mk (Kd.R_elder' (by (with_reducible repeat (first | apply Kd.R_alloc | apply Kd.R_drewN | apply Kd.R_drew)); exact HO12008.out) (Kd.R_base ho1) hb); have n2_ := Aside0.mk (Kd.S_lower (Kd.S_new' ho0 (Kd.S_lt (by (with_reducible repeat (first | apply Kd.S_alloc | apply Kd.S_drewN | apply Kd.S_drew)); exact HO12005.out))) (below_size (by repeat (first | (with_reducible first | exact HB.out | apply below_alloc | apply pw_below_drewN | apply below_drew1 | refine below_set ?_ GE12001.out) | exact HB.out)))); have n3_ := Aside0.mk (Kd.R_lower (Kd.R_new' ho1 (Kd.R_lt (by (with_reducible repeat (first | apply Kd.R_alloc | apply Kd.R_drewN | apply Kd.R_drew)); exact HO12008.out))) (below_size (by repeat (first | (with_reducible first | exact HB.out | apply below_alloc | apply pw_below_drewN | apply below_drew1 | refine below_set ?_ GE12001.out) | exact HB.out)))); have n4_ := Aside0.mk (blk_below (g := gb12001) (o := .cells #[.slice A0_0 l0_0.length c0_0, .slice A0_1 l0_1.length c0_1, .int .i64 a0_2] 60 (0, 0)) (by (with_reducible repeat (first | refine blk_drewN ?_ _ | refine blk_drew ?_ | refine blk_alloc ?_ _)); exact BK12001.out) hb); have n5_ := Aside0.mk (below_step (by repeat (first | (with_reducible first | exact HB.out | apply below_alloc | apply pw_below_drewN | apply below_drew1 | refine below_set ?_ GE12001.out) | exact HB.out)) hb); clear HO12005; clear HO12008; clear BK12001; clear HB; have HO12005 := n0_; have HO12008 := n1_; have HO12013 := n2_; have HO12016 := n3_; have BK12001 := n4_; have HB := n5_; clear n0_ n1_ n2_ n3_ n4_ n5_; (try clear hb); (try clear hb2); (try clear hk); (try clear hi); (try clear ho0); (try clear ho1)) | ((with_reducible refine gate_dst (N := 5) rfl ?_); refine box_event ?hg (N := 5) ?hd (cs := #[.slice none 0 0, .slice none 0 0, .int .i64 0]) (t := 66) ?hr ?_; (case hd => rfl); (case hg => rfl); (case hr => first | (go_simp; done) | (go_simp; rfl)); intro gb12018 hg w25 hbox hb; have n0_ := Aside0.mk (Kd.S_below (by (with_reducible repeat (first | apply Kd.S_alloc | apply Kd.S_drewN | apply Kd.S_drew)); exact HO12005.out) hb); have n1_ := Aside0.mk (Kd.R_below (by (with_reducible repeat (first | apply Kd.R_alloc | apply Kd.R_drewN | apply Kd.R_drew)); exact HO12008.out) hb); have n2_ := Aside0.mk (Kd.S_below (by (with_reducible repeat (first | apply Kd.S_alloc | apply Kd.S_drewN | apply Kd.S_drew)); exact HO12013.out) hb); have n3_ := Aside0.mk (Kd.R_below (by (with_reducible repeat (first | apply Kd.R_alloc | apply Kd.R_drewN | apply Kd.R_drew)); exact HO12016.out) hb); have n4_ := Aside0.mk (blk_below (g := gb12001) (o := .cells #[.slice A0_0 l0_0.length c0_0, .slice A0_1 l0_1.length c0_1, .int .i64 a0_2] 60 (0, 0)) (by (with_reducible repeat (first | refine blk_drewN ?_ _ | refine blk_drew ?_ | refine blk_alloc ?_ _)); exact BK12001.out) hb); have n5_ := Aside0.mk (below_step (by repeat (first | (with_reducible first | exact HB.out | apply below_alloc | apply pw_below_drewN | apply below_drew1 | refine below_set ?_ GE12001.out) | exact HB.out)) hb); have n6_ := Aside0.mk (hbox); have n7_ := Aside0.mk ((by rw [hg]; exact (below_size (by repeat (first | (with_reducible first | exact HB.out | apply below_alloc | apply pw_below_drewN | apply below_drew1 | refine below_set ?_ GE12001.out) | exact HB.out))) : w.heap.size ≤ gb12018)); have n8_ := Aside0.mk ((by rw [hg]; exact (below_size (by repeat (first | (with_reducible first | exact HB.out | apply below_alloc | apply pw_below_drewN | apply below_drew1 | refine below_set ?_ GE12001.out) | exact HB.out))) : w.heap.size ≤ gb12018)); have n9_ := Aside0.mk ((by rw [hg]; exact Nat.ne_of_lt (blk_lt (g := gb12001) (o := .cells #[.slice A0_0 l0_0.length c0_0, .slice A0_1 l0_1.length c0_1, .int .i64 a0_2] 60 (0, 0)) (by (with_reducible repeat (first | refine blk_drewN ?_ _ | refine blk_drew ?_ | refine blk_alloc ?_ _)); exact BK12001.out)) : gb12001 ≠ gb12018)); have n10_ := Aside0.mk ((by rw [hg]; exact Nat.ne_of_gt (blk_lt (g := gb12001) (o := .cells #[.slice A0_0 l0_0.length c0_0, .slice A0_1 l0_1.length c0_1, .int .i64 a0_2] 60 (0, 0)) (by (with_reducible repeat (first | refine blk_drewN ?_ _ | refine blk_drew ?_ | refine blk_alloc ?_ _)); exact BK12001.out)) : gb12018 ≠ gb12001)); clear HO12005; clear HO12008; clear HO12013; clear HO12016; clear BK12001; clear HB; have HO12005 := n0_; have HO12008 := n1_; have HO12013 := n2_; have HO12016 := n3_; have BK12001 := n4_; have HB := n5_; have BK12018 := n6_; have GW12018 := n7_; have GE12018 := n8_; have NB12001_12018 := n9_; have NB12018_12001 := n10_; clear n0_ n1_ n2_ n3_ n4_ n5_ n6_ n7_ n8_ n9_ n10_; clear hb hbox hg; obtain ⟨Ao26, co26, eo26⟩ := Kd.S_slice HO12013.out; subst eo26; have hnb27 := NB12018_12001.out; have hnc27 := NB12001_12018.out; have hcz28_0 : w25.cell? ⟨gb12018, 0, none⟩ = some (.slice none 0 0) := (blk_cell BK12018.out 0).trans rfl; have hcz28_1 : w25.cell? ⟨gb12018, 1, none⟩ = some (.slice none 0 0) := (blk_cell BK12018.out 1).trans rfl; have hcz28_2 : w25.cell? ⟨gb12018, 2, none⟩ = some (.int .i64 0) := (blk_cell BK12018.out 2).trans rfl; have hfz28_0 := blk_frozen BK12018.out 0; have hfz28_1 := blk_frozen BK12018.out 1; have hfz28_2 := blk_frozen BK12018.out 2; obtain ⟨Ao29, co29, eo29⟩ := Kd.R_slice HO12016.out; subst eo29) | ((with_reducible refine gate_callee (f := 53) rfl ?_); refine goesL_ (some 18) rfl rfl Try.func53 (by kernel_rfl) rfl #[.agg #[.slice Ao26 t12011.length co26, .slice Ao29 t12014.length co29, .int .i64 t12017]] rfl (by (try simp only [List.map_toArray, List.map_cons, List.map_nil]); first | done | rfl | (simp only [List.length_drop, List.length_take]; rfl)) ?_; (with_reducible refine (impl_CountChoices.calls k _ _ t12011 _ _ t12014 t12017 t12019 _ ?side1 ?side2 ?side3 ?side4 A10.out).mono ?_); (case side1 => refine (Kd.S_reads' (e := 120) (base := w.heap.size) (ok := fun k_ => (True ∧ some k_ ≠ (.slice Ao20 t12003.length co20 : Value).ownBlock)) (n := t12011.length) (c := co26) ?_).2.2; exact (by (with_reducible repeat (first | apply Kd.S_alloc | apply Kd.S_drewN | apply Kd.S_drew)); exact (Kd.S_mono (Kd.S_far (p := ⟨gb12018, 2, none⟩) (Kd.S_far (p := ⟨gb12018, 1, none⟩) (Kd.S_far (p := ⟨gb12018, 0, none⟩) (Kd.S_types HO12013.out BK12018.out (by decide)) (fun _ hk => hk.2) (.slice Ao26 t12011.length co26)) (fun _ hk => hk.2) (.slice Ao29 t12014.length co29)) (fun _ hk => hk.2) (.int .i64 t12017)) (fun _ h_ => h_.1)))); (case side2 => exact (Kd.S_reads' HO12013.out).2.1); (case side3 => refine (Kd.R_reads' (e := 126) (base := w.heap.size) (ok := fun k_ => (True ∧ some k_ ≠ (.slice Ao21 t12006.length co21 : Value).ownBlock)) (n := t12014.length) (c := co29) ?_).2.2; exact (by (with_reducible repeat (first | apply Kd.R_alloc | apply Kd.R_drewN | apply Kd.R_drew)); exact (Kd.R_mono (Kd.R_far (p := ⟨gb12018, 2, none⟩) (Kd.R_far (p := ⟨gb12018, 1, none⟩) (Kd.R_far (p := ⟨gb12018, 0, none⟩) (Kd.R_types HO12016.out BK12018.out (by decide)) (fun _ hk => hk.2) (.slice Ao26 t12011.length co26)) (fun _ hk => hk.2) (.slice Ao29 t12014.length co29)) (fun _ hk => hk.2) (.int .i64 t12017)) (fun _ h_ => h_.1)))); (case side4 => exact (Kd.R_reads' HO12016.out).2.1); rintro e w30 ⟨rfl, hb⟩; refine ⟨_, rfl, ?_⟩; have n0_ := Aside0.mk (Kd.S_below (by (with_reducible repeat (first | apply Kd.S_alloc | apply Kd.S_drewN | apply Kd.S_drew)); exact (Kd.S_mono (Kd.S_far (p := ⟨gb12018, 2, none⟩) (Kd.S_far (p := ⟨gb12018, 1, none⟩) (Kd.S_far (p := ⟨gb12018, 0, none⟩) (Kd.S_types HO12005.out BK12018.out (by decide)) (fun _ hk => hk.2) (.slice Ao26 t12011.length co26)) (fun _ hk => hk.2) (.slice Ao29 t12014.length co29)) (fun _ hk => hk.2) (.int .i64 t12017)) (fun _ h_ => h_.1))) hb); have n1_ := Aside0.mk (Kd.R_below (by (with_reducible repeat (first | apply Kd.R_alloc | apply Kd.R_drewN | apply Kd.R_drew)); exact (Kd.R_mono (Kd.R_far (p := ⟨gb12018, 2, none⟩) (Kd.R_far (p := ⟨gb12018, 1, none⟩) (Kd.R_far (p := ⟨gb12018, 0, none⟩) (Kd.R_types HO12008.out BK12018.out (by decide)) (fun _ hk => hk.2) (.slice Ao26 t12011.length co26)) (fun _ hk => hk.2) (.slice Ao29 t12014.length co29)) (fun _ hk => hk.2) (.int .i64 t12017)) (fun _ h_ => h_.1))) hb); have n2_ := Aside0.mk (Kd.S_below (by (with_reducible repeat (first | apply Kd.S_alloc | apply Kd.S_drewN | apply Kd.S_drew)); exact (Kd.S_mono (Kd.S_far (p := ⟨gb12018, 2, none⟩) (Kd.S_far (p := ⟨gb12018, 1, none⟩) (Kd.S_far (p := ⟨gb12018, 0, none⟩) (Kd.S_types HO12013.out BK12018.out (by decide)) (fun _ hk => hk.2) (.slice Ao26 t12011.length co26)) (fun _ hk => hk.2) (.slice Ao29 t12014.length co29)) (fun _ hk => hk.2) (.int .i64 t12017)) (fun _ h_ => h_.1))) hb); have n3_ := Aside0.mk (Kd.R_below (by (with_reducible repeat (first | apply Kd.R_alloc | apply Kd.R_drewN | apply Kd.R_drew)); exact (Kd.R_mono (Kd.R_far (p := ⟨gb12018, 2, none⟩) (Kd.R_far (p := ⟨gb12018, 1, none⟩) (Kd.R_far (p := ⟨gb12018, 0, none⟩) (Kd.R_types HO12016.out BK12018.out (by decide)) (fun _ hk => hk.2) (.slice Ao26 t12011.length co26)) (fun _ hk => hk.2) (.slice Ao29 t12014.length co29)) (fun _ hk => hk.2) (.int .i64 t12017)) (fun _ h_ => h_.1))) hb); have n4_ := Aside0.mk (blk_below (g := gb12001) (o := .cells #[.slice A0_0 l0_0.length c0_0, .slice A0_1 l0_1.length c0_1, .int .i64 a0_2] 60 (0, 0)) (by (with_reducible repeat (first | refine blk_drewN ?_ _ | refine blk_drew ?_ | refine blk_alloc ?_ _)); refine blk_far ?_ NB12001_12018.out _; (with_reducible repeat (first | refine blk_drewN ?_ _ | refine blk_drew ?_ | refine blk_alloc ?_ _)); refine blk_far ?_ NB12001_12018.out _; (with_reducible repeat (first | refine blk_drewN ?_ _ | refine blk_drew ?_ | refine blk_alloc ?_ _)); refine blk_far ?_ NB12001_12018.out _; (with_reducible repeat (first | refine blk_drewN ?_ _ | refine blk_drew ?_ | refine blk_alloc ?_ _)); exact BK12001.out) hb); have n5_ := Aside0.mk (blk_below (g := gb12018) (o := .cells #[.slice Ao26 t12011.length co26, .slice Ao29 t12014.length co29, .int .i64 t12017] 66 (0, 0)) (by (with_reducible repeat (first | refine blk_drewN ?_ _ | refine blk_drew ?_ | refine blk_alloc ?_ _)); refine blk_put (cs := #[.slice Ao26 t12011.length co26, .slice Ao29 t12014.length co29, .int .i64 0]) ?_ 2 _ rfl; (with_reducible repeat (first | refine blk_drewN ?_ _ | refine blk_drew ?_ | refine blk_alloc ?_ _)); refine blk_put (cs := #[.slice Ao26 t12011.length co26, .slice none 0 0, .int .i64 0]) ?_ 1 _ rfl; (with_reducible repeat (first | refine blk_drewN ?_ _ | refine blk_drew ?_ | refine blk_alloc ?_ _)); refine blk_put (cs := #[.slice none 0 0, .slice none 0 0, .int .i64 0]) ?_ 0 _ rfl; (with_reducible repeat (first | refine blk_drewN ?_ _ | refine blk_drew ?_ | refine blk_alloc ?_ _)); exact BK12018.out) hb); have n6_ := Aside0.mk (below_step (by repeat (first | (with_reducible first | exact HB.out | apply below_alloc | apply pw_below_drewN | apply below_drew1 | refine below_set ?_ GE12001.out | refine below_set ?_ GE12018.out) | exact HB.out)) hb); clear HO12005; clear HO12008; clear HO12013; clear HO12016; clear BK12001; clear BK12018; clear HB; have HO12005 := n0_; have HO12008 := n1_; have HO12013 := n2_; have HO12016 := n3_; have BK12001 := n4_; have BK12018 := n5_; have HB := n6_; clear n0_ n1_ n2_ n3_ n4_ n5_ n6_; (try clear hb); (try clear hb2); (try clear hk); (try clear hi)))
        have n0_ := Aside0.mk (Kd.S_drew HO12005.out)
        have n1_ := Aside0.mk (Kd.R_drew HO12008.out)
        have n2_ := Aside0.mk (Kd.S_drew HO12013.out)
        have n3_ := Aside0.mk (Kd.R_drew HO12016.out)
        have n4_ := Aside0.mk (blk_drew BK12001.out)
        have n5_ := Aside0.mk (blk_drew BK12018.out)
        have n6_ := Aside0.mk (below_drew1 HB.out)
        clear HO12005
        clear HO12008
        clear HO12013
        clear HO12016
        clear BK12001
        clear BK12018
        clear HB
        have HO12005 := n0_
        have HO12008 := n1_
        have HO12013 := n2_
        have HO12016 := n3_
        have BK12001 := n4_
        have BK12018 := n5_
        have HB := n6_
        clear n0_ n1_ n2_ n3_ n4_ n5_ n6_
        refine start_ (n := 5) (S := fun w' => w'.cell? ⟨gb12018, 0, none⟩ = some (.slice Ao26 t12011.length co26) ∧ w'.cell? ⟨gb12018, 1, none⟩ = some (.slice Ao29 t12014.length co29) ∧ w'.cell? ⟨gb12018, 2, none⟩ = some (.int .i64 t12017) ∧ w'.cell? ⟨gb12001, 0, none⟩ = some (.slice A0_0 l0_0.length c0_0) ∧ w'.cell? ⟨gb12001, 1, none⟩ = some (.slice A0_1 l0_1.length c0_1) ∧ w'.cell? ⟨gb12001, 2, none⟩ = some (.int .i64 a0_2)) (ds := []) #[false, false, false, false, false] (by kernel_rfl) rfl rfl ⟨(blk_cell BK12018.out 0).trans rfl, (blk_cell BK12018.out 1).trans rfl, (blk_cell BK12018.out 2).trans rfl, (blk_cell BK12001.out 0).trans rfl, (blk_cell BK12001.out 1).trans rfl, (blk_cell BK12001.out 2).trans rfl⟩ (fun hHeld => ?_)
        generalize w30.drew = w31 at HO12005 HO12008 HO12013 HO12016 BK12001 BK12018 HB hHeld ⊢
        refine take_ (i := 0) (N := some 22) (v := ?_) (a' := ?_) #[true, false, false, false, false] rfl rfl (by kernel_rfl) (fun _ _ _ h => h) (Or.inl ⟨by rfl, ?_⟩) hHeld ?_ ?_
        rotate_left
        · rintro w' ⟨s0, s1, s2, s3, s4, s5⟩
          go_simp
          with_reducible rfl
        rotate_left
        · simp only [Act.put, List.setIfInBounds_toArray, List.set_cons_zero, List.set_cons_succ, i64_w, i32_w]
          rfl
        refine take_ (i := 1) (N := some 23) (v := ?_) (a' := ?_) #[true, true, false, false, false] rfl rfl (by kernel_rfl) (fun _ _ _ h => h) (Or.inl ⟨by rfl, ?_⟩) hHeld ?_ ?_
        rotate_left
        · rintro w' ⟨s0, s1, s2, s3, s4, s5⟩
          go_simp
          with_reducible rfl
        rotate_left
        · simp only [Act.put, List.setIfInBounds_toArray, List.set_cons_zero, List.set_cons_succ, i64_w, i32_w]
          rfl
        refine one_ (i := 2) (N := some 24) #[true, true, true, false, false] rfl rfl (by kernel_rfl) (by decide) (fun K hK => ?_)
        refine goes_ Try.func43 (by kernel_rfl) rfl #[.agg #[.slice A0_0 l0_0.length c0_0, .slice A0_1 l0_1.length c0_1, .int .i64 a0_2]] (by rfl) rfl rfl (by (try simp only [List.map_toArray, List.map_cons, List.map_nil]); first | done | rfl | (simp only [List.length_drop, List.length_take]; rfl)) ?_
        with_reducible refine (laws_toShow.calls k _ _ l0_0 _ _ l0_1 a0_2 t12020 t12023 t12026 _ ?side1 ?side2 ?side3 ?side4 A12.out).mono ?_
        (case side1 => repeat (first | exact (Kd.C_below HR0_0.out HB.out) | (with_reducible refine Kd.C_alloc ?_ _) | (with_reducible refine Kd.C_drewN ?_ _) | (with_reducible refine Kd.C_drew ?_)))
        (case side2 => exact HC0_0.out)
        (case side3 => repeat (first | exact (Kd.C_below HR0_1.out HB.out) | (with_reducible refine Kd.C_alloc ?_ _) | (with_reducible refine Kd.C_drewN ?_ _) | (with_reducible refine Kd.C_drew ?_)))
        (case side4 => exact HC0_1.out)
        rintro e w32 ⟨v12021, v12024, rfl, ho0, ho1, hb⟩
        refine ⟨_, rfl, ?_⟩
        have n0_ := Aside0.mk (Kd.S_elder' (by (with_reducible repeat (first | apply Kd.S_alloc | apply Kd.S_drewN | apply Kd.S_drew)); exact HO12005.out) (Kd.S_base ho0) hb)
        have n1_ := Aside0.mk (Kd.R_elder' (by (with_reducible repeat (first | apply Kd.R_alloc | apply Kd.R_drewN | apply Kd.R_drew)); exact HO12008.out) (Kd.R_base ho1) hb)
        have n2_ := Aside0.mk (Kd.S_elder' (by (with_reducible repeat (first | apply Kd.S_alloc | apply Kd.S_drewN | apply Kd.S_drew)); exact HO12013.out) (Kd.S_base ho0) hb)
        have n3_ := Aside0.mk (Kd.R_elder' (by (with_reducible repeat (first | apply Kd.R_alloc | apply Kd.R_drewN | apply Kd.R_drew)); exact HO12016.out) (Kd.R_base ho1) hb)
        have n4_ := Aside0.mk (Kd.S_lower (Kd.S_new' (Kd.S_new' ho0 (Kd.S_lt (by (with_reducible repeat (first | apply Kd.S_alloc | apply Kd.S_drewN | apply Kd.S_drew)); exact HO12005.out))) (Kd.S_lt (by (with_reducible repeat (first | apply Kd.S_alloc | apply Kd.S_drewN | apply Kd.S_drew)); exact HO12013.out))) (below_size (by repeat (first | (with_reducible first | exact HB.out | apply below_alloc | apply pw_below_drewN | apply below_drew1 | refine below_set ?_ GE12001.out | refine below_set ?_ GE12018.out) | exact HB.out))))
        have n5_ := Aside0.mk (Kd.R_lower (Kd.R_new' (Kd.R_new' ho1 (Kd.R_lt (by (with_reducible repeat (first | apply Kd.R_alloc | apply Kd.R_drewN | apply Kd.R_drew)); exact HO12008.out))) (Kd.R_lt (by (with_reducible repeat (first | apply Kd.R_alloc | apply Kd.R_drewN | apply Kd.R_drew)); exact HO12016.out))) (below_size (by repeat (first | (with_reducible first | exact HB.out | apply below_alloc | apply pw_below_drewN | apply below_drew1 | refine below_set ?_ GE12001.out | refine below_set ?_ GE12018.out) | exact HB.out))))
        have n6_ := Aside0.mk (blk_below (g := gb12001) (o := .cells #[.slice A0_0 l0_0.length c0_0, .slice A0_1 l0_1.length c0_1, .int .i64 a0_2] 60 (0, 0)) (by (with_reducible repeat (first | refine blk_drewN ?_ _ | refine blk_drew ?_ | refine blk_alloc ?_ _)); exact BK12001.out) hb)
        have n7_ := Aside0.mk (blk_below (g := gb12018) (o := .cells #[.slice Ao26 t12011.length co26, .slice Ao29 t12014.length co29, .int .i64 t12017] 66 (0, 0)) (by (with_reducible repeat (first | refine blk_drewN ?_ _ | refine blk_drew ?_ | refine blk_alloc ?_ _)); exact BK12018.out) hb)
        have n8_ := Aside0.mk (below_step (by repeat (first | (with_reducible first | exact HB.out | apply below_alloc | apply pw_below_drewN | apply below_drew1 | refine below_set ?_ GE12001.out | refine below_set ?_ GE12018.out) | exact HB.out)) hb)
        clear HO12005
        clear HO12008
        clear HO12013
        clear HO12016
        clear BK12001
        clear BK12018
        clear HB
        have HO12005 := n0_
        have HO12008 := n1_
        have HO12013 := n2_
        have HO12016 := n3_
        have HO12022 := n4_
        have HO12025 := n5_
        have BK12001 := n6_
        have BK12018 := n7_
        have HB := n8_
        clear n0_ n1_ n2_ n3_ n4_ n5_ n6_ n7_ n8_
        (try clear hb)
        (try clear hb2)
        (try clear hk)
        (try clear hi)
        (try clear ho0)
        (try clear ho1)
        obtain ⟨Ao33, co33, eo33⟩ := Kd.S_slice HO12022.out
        (first | subst eo33 | (injection eo33 with f1_ f2_ f3_; have f4_ := f1_.symm; have f5_ := f3_.symm; clear f1_ f2_ f3_; subst f4_; subst f5_))
        obtain ⟨Ao34, co34, eo34⟩ := Kd.R_slice HO12025.out
        (first | subst eo34 | (injection eo34 with f1_ f2_ f3_; have f4_ := f1_.symm; have f5_ := f3_.symm; clear f1_ f2_ f3_; subst f4_; subst f5_))
        refine hK.out _ _ ⟨(blk_cell BK12018.out 0).trans rfl, (blk_cell BK12018.out 1).trans rfl, (blk_cell BK12018.out 2).trans rfl, (blk_cell BK12001.out 0).trans rfl, (blk_cell BK12001.out 1).trans rfl, (blk_cell BK12001.out 2).trans rfl⟩ (fun hHeld => ?_)
        clear hK K
        refine norm_ (a' := ?_) ?_ ?_
        rotate_left
        · show Act.put _ (some 24) _ = _
          simp only [Act.put, List.setIfInBounds_toArray, List.set_cons_zero, List.set_cons_succ, i64_w, i32_w]
          rfl
        refine one_ (i := 3) (N := some 25) #[true, true, true, true, false] rfl rfl (by kernel_rfl) (by decide) (fun K hK => ?_)
        refine goes_ Try.func45 (by kernel_rfl) rfl #[.agg #[.slice Ao26 t12011.length co26, .slice Ao29 t12014.length co29, .int .i64 t12017], .agg #[.slice Ao33 t12020.length co33, .slice Ao34 t12023.length co34, .int .i64 t12026]] (by rfl) rfl rfl (by (try simp only [List.map_toArray, List.map_cons, List.map_nil]); first | done | rfl | (simp only [List.length_drop, List.length_take]; rfl)) ?_
        with_reducible refine (laws_eqShow.calls k _ _ t12011 _ _ t12014 t12017 _ _ t12020 _ _ t12023 t12026 true _ ?side1 ?side2 ?side3 ?side4 ?side5 ?side6 ?side7 ?side8 A13.out).mono ?_
        (case side1 => repeat (first | exact (Kd.S_reads' HO12013.out).2.2 | (with_reducible refine Kd.C_alloc ?_ _) | (with_reducible refine Kd.C_drewN ?_ _) | (with_reducible refine Kd.C_drew ?_)))
        (case side2 => exact (Kd.S_reads' HO12013.out).2.1)
        (case side3 => repeat (first | exact (Kd.R_reads' HO12016.out).2.2 | (with_reducible refine Kd.C_alloc ?_ _) | (with_reducible refine Kd.C_drewN ?_ _) | (with_reducible refine Kd.C_drew ?_)))
        (case side4 => exact (Kd.R_reads' HO12016.out).2.1)
        (case side5 => repeat (first | exact (Kd.S_reads' HO12022.out).2.2 | (with_reducible refine Kd.C_alloc ?_ _) | (with_reducible refine Kd.C_drewN ?_ _) | (with_reducible refine Kd.C_drew ?_)))
        (case side6 => exact (Kd.S_reads' HO12022.out).2.1)
        (case side7 => repeat (first | exact (Kd.R_reads' HO12025.out).2.2 | (with_reducible refine Kd.C_alloc ?_ _) | (with_reducible refine Kd.C_drewN ?_ _) | (with_reducible refine Kd.C_drew ?_)))
        (case side8 => exact (Kd.R_reads' HO12025.out).2.1)
        rintro e w35 ⟨rfl, hb⟩
        refine ⟨_, rfl, ?_⟩
        have n0_ := Aside0.mk (Kd.S_below (by (with_reducible repeat (first | apply Kd.S_alloc | apply Kd.S_drewN | apply Kd.S_drew)); exact HO12005.out) hb)
        have n1_ := Aside0.mk (Kd.R_below (by (with_reducible repeat (first | apply Kd.R_alloc | apply Kd.R_drewN | apply Kd.R_drew)); exact HO12008.out) hb)
        have n2_ := Aside0.mk (Kd.S_below (by (with_reducible repeat (first | apply Kd.S_alloc | apply Kd.S_drewN | apply Kd.S_drew)); exact HO12013.out) hb)
        have n3_ := Aside0.mk (Kd.R_below (by (with_reducible repeat (first | apply Kd.R_alloc | apply Kd.R_drewN | apply Kd.R_drew)); exact HO12016.out) hb)
        have n4_ := Aside0.mk (Kd.S_below (by (with_reducible repeat (first | apply Kd.S_alloc | apply Kd.S_drewN | apply Kd.S_drew)); exact HO12022.out) hb)
        have n5_ := Aside0.mk (Kd.R_below (by (with_reducible repeat (first | apply Kd.R_alloc | apply Kd.R_drewN | apply Kd.R_drew)); exact HO12025.out) hb)
        have n6_ := Aside0.mk (blk_below (g := gb12001) (o := .cells #[.slice A0_0 l0_0.length c0_0, .slice A0_1 l0_1.length c0_1, .int .i64 a0_2] 60 (0, 0)) (by (with_reducible repeat (first | refine blk_drewN ?_ _ | refine blk_drew ?_ | refine blk_alloc ?_ _)); exact BK12001.out) hb)
        have n7_ := Aside0.mk (blk_below (g := gb12018) (o := .cells #[.slice Ao26 t12011.length co26, .slice Ao29 t12014.length co29, .int .i64 t12017] 66 (0, 0)) (by (with_reducible repeat (first | refine blk_drewN ?_ _ | refine blk_drew ?_ | refine blk_alloc ?_ _)); exact BK12018.out) hb)
        have n8_ := Aside0.mk (below_step (by repeat (first | (with_reducible first | exact HB.out | apply below_alloc | apply pw_below_drewN | apply below_drew1 | refine below_set ?_ GE12001.out | refine below_set ?_ GE12018.out) | exact HB.out)) hb)
        clear HO12005
        clear HO12008
        clear HO12013
        clear HO12016
        clear HO12022
        clear HO12025
        clear BK12001
        clear BK12018
        clear HB
        have HO12005 := n0_
        have HO12008 := n1_
        have HO12013 := n2_
        have HO12016 := n3_
        have HO12022 := n4_
        have HO12025 := n5_
        have BK12001 := n6_
        have BK12018 := n7_
        have HB := n8_
        clear n0_ n1_ n2_ n3_ n4_ n5_ n6_ n7_ n8_
        (try clear hb)
        (try clear hb2)
        (try clear hk)
        (try clear hi)
        refine hK.out _ _ ⟨(blk_cell BK12018.out 0).trans rfl, (blk_cell BK12018.out 1).trans rfl, (blk_cell BK12018.out 2).trans rfl, (blk_cell BK12001.out 0).trans rfl, (blk_cell BK12001.out 1).trans rfl, (blk_cell BK12001.out 2).trans rfl⟩ (fun hHeld => ?_)
        clear hK K
        refine norm_ (a' := ?_) ?_ ?_
        rotate_left
        · show Act.put _ (some 25) _ = _
          simp only [Act.put, List.setIfInBounds_toArray, List.set_cons_zero, List.set_cons_succ, i64_w, i32_w]
          rfl
        refine pure_ (i := 4) (N := some 26) (v := ?_) (a' := ?_) #[true, true, true, true, true] rfl rfl (by kernel_rfl) (fun _ _ _ h => h) (Or.inl ⟨by rfl, ?_⟩) ?_ ?_
        rotate_left
        · intro w'
          go_simp
          with_reducible rfl
        rotate_left
        · simp only [Act.put, List.setIfInBounds_toArray, List.set_cons_zero, List.set_cons_succ, i64_w, i32_w]
          rfl
        refine done_ (by kernel_rfl) ?_
        try go_wp2
        go_ret
        exact ⟨by first | rfl | (simp [errW_none, errW_some] <;> rfl) | (simp [*, errW_none, errW_some] <;> rfl), by repeat (first | (with_reducible first | exact HB.out | apply below_alloc | apply pw_below_drewN | apply below_drew1 | refine below_set ?_ GE12001.out | refine below_set ?_ GE12018.out) | exact HB.out)⟩
      · replace c14 := Bool.eq_false_iff.mpr c14
        subst c14
        exact absurd H (by simp)
    · rw [if_neg c11] at H
      have c11b0 : (t12019 == t12010) = false := beq_eq_false_iff_ne.mpr c11
      have c11b1 : (t12019 != t12010) = true := bne_iff_ne.mpr c11
      exact absurd H (by simp)

end Go.Proofs.Ytpoffpdaadhkgaa.Pr

namespace Go.Proofs.Ytpoffpdaadhkgaa.Pr
open Go.RowKit Go.Proofs.YtpoffpdaadhkgaaW.PrintWords Go.Proofs.YtpoffpdaadhkgaaW.PrintLast Go.Proofs.YtpoffpdaadhkgaaW.PrintMore
attribute [local go_sem] max2_int min2_int max_two min_two max_three min_three max_four min_four
set_option linter.unusedVariables false
set_option linter.unusedSimpArgs false

def laws_FnExactCountChoices.Pure : Prop := ∀ (y0 : S60), okS60 y0 → ∃ k, laws_FnExactCountChoices.f k y0.f0 y0.f1 y0.f2 = some true
end Go.Proofs.Ytpoffpdaadhkgaa.Pr

namespace Go.Proofs.Ytpoffpdaadhkgaa.Pure
open Go.RowKit Go.Proofs.Ytpoffpdaadhkgaa.Pr Go.Proofs.Ytpoffpdaadhkgaa.Ni Go.Proofs.YtpoffpdaadhkgaaW.PrintWords Go.Proofs.YtpoffpdaadhkgaaW.PrintMore
theorem FnExactCountChoices : laws_FnExactCountChoices.Pure := by
  rintro ⟨ns, ts, z⟩ ⟨⟨hn, hb⟩, ⟨ht, _⟩, _⟩
  simp only [maxLen] at hn ht
  refine ⟨2 ^ 70, ?_⟩
  unfold laws_FnExactCountChoices.f
  obtain ⟨r, hr, h⟩ := szShow_f ns ts z hn (fun n hn => by have := hb n hn; exact ⟨by simpa [maxLen] using this.1, by simpa [maxLen] using this.2.1.1⟩) ht (2 ^ 70) (by omega) 1048576 (by omega) (by omega)
  rw [hr, Option.bind_some]
  rcases h with h | ⟨_, _, h⟩
  · rw [if_pos h]
  rw [if_neg (by omega)]
  have hc := h.cv
  have hf := fitN_of hc
  simp only [toShow_f ns ts z h (2 ^ 70) (by omega), spec_CountChoices_f (z := z) hf (by have := hc.1; omega) hc.2.1 (2 ^ 70) (by omega), impl_CountChoices_f (z := z) hf hc.2.1 (2 ^ 70) (by omega), eqShow_refl _ _ _ hc (2 ^ 70) (by omega), Option.bind_some, if_true]
end Go.Proofs.Ytpoffpdaadhkgaa.Pure

