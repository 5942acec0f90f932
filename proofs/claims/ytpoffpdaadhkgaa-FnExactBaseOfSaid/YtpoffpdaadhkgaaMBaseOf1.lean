/- The texts of one claim, put together by a program of this session. -/
import Derived.Test.YtpoffpdaadhkgaaBCcc1x1
import Derived.Test.YtpoffpdaadhkgaaBCcc1x10
import Derived.Test.YtpoffpdaadhkgaaBCcc1x2
import Derived.Test.YtpoffpdaadhkgaaBCcc2x1
namespace Go.Proofs.Ytpoffpdaadhkgaa.Pr
open Go.RowKit Go.Proofs.YtpoffpdaadhkgaaW.PrintWords Go.Proofs.YtpoffpdaadhkgaaW.PrintLast Go.Proofs.YtpoffpdaadhkgaaW.PrintMore
attribute [local go_sem] max2_int min2_int max_two min_two max_three min_three max_four min_four
set_option linter.unusedVariables false
set_option linter.unusedSimpArgs false

/-! ### laws_FnExactBaseOf: function 13 -/
def laws_FnExactBaseOf.j0 : Nat → Bool → List (S159) → List (S165) → Int → List (S120) → List (S126) → Int → Option (Bool)
  | 0, _, _, _, _, _, _, _ => none
  | k + 1, x47, x13002000, x13002001, x13002002, x13021000, x13021001, x13021002 => if x47 = true then (some false) else ((laws_toShow.f k x13002000 x13002001 x13002002).bind fun bt13024 => ((laws_eqShow.f k x13021000 x13021001 x13021002 bt13024.1 bt13024.2.1 bt13024.2.2).bind fun t13031 => (if t13031 = true then (some true) else (some false))))
def laws_FnExactBaseOf.f (k : Nat) (l0_0 : List (S159)) (l0_1 : List (S165)) (a0_2 : Int) (a1 : Int) : Option (Bool) := (laws_szShow.f k l0_0 l0_1 a0_2 1048576).bind fun t13002 => (if t13002 < 0 then (some true) else ((laws_toShow.f k l0_0 l0_1 a0_2).bind fun bt13003 => ((spec_BaseOf.f k bt13003.1 bt13003.2.1 bt13003.2.2 a1).bind fun bt13010 => ((laws_toShow.f k l0_0 l0_1 a0_2).bind fun bt13013 => ((impl_BaseOf.f k bt13013.1 bt13013.2.1 bt13013.2.2 a1).bind fun bt13021 => (if bt13021.1 = bt13010.1 then (if bt13021.2.1 = bt13010.2.1 then (laws_FnExactBaseOf.j0 k (bt13021.2.2 != bt13010.2.2) l0_0 l0_1 a0_2 bt13013.1 bt13013.2.1 bt13013.2.2) else (laws_FnExactBaseOf.j0 k true l0_0 l0_1 a0_2 bt13013.1 bt13013.2.1 bt13013.2.2)) else (laws_FnExactBaseOf.j0 k true l0_0 l0_1 a0_2 bt13013.1 bt13013.2.1 bt13013.2.2)))))))
set_option maxHeartbeats 8000000 in
set_option maxRecDepth 100000 in
theorem laws_FnExactBaseOf.calls (k : Nat) (A0_0 : Option Addr) (c0_0 : Nat) (l0_0 : List (S159)) (A0_1 : Option Addr) (c0_1 : Nat) (l0_1 : List (S165)) (a0_2 : Int) (a1 : Int) (w : World) (hr0_0 : Kd.C k159 w A0_0 l0_0.length l0_0) (hc0_0 : l0_0.length ≤ c0_0) (hr0_1 : Kd.C k165 w A0_1 l0_1.length l0_1) (hc0_1 : l0_1.length ≤ c0_1) (h : laws_FnExactBaseOf.f k l0_0 l0_1 a0_2 a1 = some true) :
    Calls Try.prog 13 #[.agg #[.slice A0_0 l0_0.length c0_0, .slice A0_1 l0_1.length c0_1, .int .i64 a0_2], .int .i64 a1] w fun e w' => e = .returned (.bool true) ∧ Below w.heap.size w w' := by
  have hu60 := Try.underlying60
  have hu66 := Try.underlying66
  have HR0_0 := Aside0.mk hr0_0
  have HC0_0 := Aside0.mk hc0_0
  clear hr0_0 hc0_0
  have HR0_1 := Aside0.mk hr0_1
  have HC0_1 := Aside0.mk hc0_1
  clear hr0_1 hc0_1
  have HB := Aside0.mk (Below.refl w.heap.size w)
  have H : ((laws_szShow.f k l0_0 l0_1 a0_2 1048576).bind fun t13002 => (if t13002 < 0 then (some true) else ((laws_toShow.f k l0_0 l0_1 a0_2).bind fun bt13003 => ((spec_BaseOf.f k bt13003.1 bt13003.2.1 bt13003.2.2 a1).bind fun bt13010 => ((laws_toShow.f k l0_0 l0_1 a0_2).bind fun bt13013 => ((impl_BaseOf.f k bt13013.1 bt13013.2.1 bt13013.2.2 a1).bind fun bt13021 => (if bt13021.1 = bt13010.1 then (if bt13021.2.1 = bt13010.2.1 then (laws_FnExactBaseOf.j0 k (bt13021.2.2 != bt13010.2.2) l0_0 l0_1 a0_2 bt13013.1 bt13013.2.1 bt13013.2.2) else (laws_FnExactBaseOf.j0 k true l0_0 l0_1 a0_2 bt13013.1 bt13013.2.1 bt13013.2.2)) else (laws_FnExactBaseOf.j0 k true l0_0 l0_1 a0_2 bt13013.1 bt13013.2.1 bt13013.2.2)))))))) = some true := h
  clear h
  replace H := Option.bind_eq_some_iff.mp H
  obtain ⟨t13002, A30, H⟩ := H
  replace H : (if t13002 < 0 then (some true) else ((laws_toShow.f k l0_0 l0_1 a0_2).bind fun bt13003 => ((spec_BaseOf.f k bt13003.1 bt13003.2.1 bt13003.2.2 a1).bind fun bt13010 => ((laws_toShow.f k l0_0 l0_1 a0_2).bind fun bt13013 => ((impl_BaseOf.f k bt13013.1 bt13013.2.1 bt13013.2.2 a1).bind fun bt13021 => (if bt13021.1 = bt13010.1 then (if bt13021.2.1 = bt13010.2.1 then (laws_FnExactBaseOf.j0 k (bt13021.2.2 != bt13010.2.2) l0_0 l0_1 a0_2 bt13013.1 bt13013.2.1 bt13013.2.2) else (laws_FnExactBaseOf.j0 k true l0_0 l0_1 a0_2 bt13013.1 bt13013.2.1 bt13013.2.2)) else (laws_FnExactBaseOf.j0 k true l0_0 l0_1 a0_2 bt13013.1 bt13013.2.1 bt13013.2.2))))))) = some true := H
  have A3 := Aside0.mk A30
  clear A30
  by_cases c4 : t13002 < 0
  · rw [if_pos c4] at H
    have c4b0 : decide (t13002 < 0) = true := decide_eq_true c4
    clear c4
    clear H
    go_enter Try.func13, Try.ntmps13
    go_wp2_with (first | ((with_reducible refine gate_dst (N := 2) rfl ?_); refine box_event ?hg (N := 2) ?hd (cs := #[.slice A0_0 l0_0.length c0_0, .slice A0_1 l0_1.length c0_1, .int .i64 a0_2]) (t := 60) ?hr ?_; (case hd => rfl); (case hg => rfl); (case hr => first | (go_simp; done) | (go_simp; rfl)); intro gb13001 hg w5 hbox hb; have n0_ := Aside0.mk (below_step (by repeat (first | (with_reducible first | exact HB.out | apply below_alloc | apply pw_below_drewN | apply below_drew1) | exact HB.out)) hb); have n1_ := Aside0.mk (hbox); have n2_ := Aside0.mk ((by rw [hg]; exact (below_size (by repeat (first | (with_reducible first | exact HB.out | apply below_alloc | apply pw_below_drewN | apply below_drew1) | exact HB.out))) : w.heap.size ≤ gb13001)); have n3_ := Aside0.mk ((by rw [hg]; exact (below_size (by repeat (first | (with_reducible first | exact HB.out | apply below_alloc | apply pw_below_drewN | apply below_drew1) | exact HB.out))) : w.heap.size ≤ gb13001)); clear HB; have HB := n0_; have BK13001 := n1_; have GW13001 := n2_; have GE13001 := n3_; clear n0_ n1_ n2_ n3_; clear hb hbox hg; have hcz6_0 : w5.cell? ⟨gb13001, 0, none⟩ = some (.slice A0_0 l0_0.length c0_0) := (blk_cell BK13001.out 0).trans rfl; have hcz6_1 : w5.cell? ⟨gb13001, 1, none⟩ = some (.slice A0_1 l0_1.length c0_1) := (blk_cell BK13001.out 1).trans rfl; have hcz6_2 : w5.cell? ⟨gb13001, 2, none⟩ = some (.int .i64 a0_2) := (blk_cell BK13001.out 2).trans rfl; have hfz6_0 := blk_frozen BK13001.out 0; have hfz6_1 := blk_frozen BK13001.out 1; have hfz6_2 := blk_frozen BK13001.out 2) | ((with_reducible refine gate_callee (f := 41) rfl ?_); refine goesL_ (some 15) rfl rfl Try.func41 (by kernel_rfl) rfl #[.agg #[.slice A0_0 l0_0.length c0_0, .slice A0_1 l0_1.length c0_1, .int .i64 a0_2], .int .i64 1048576] rfl (by (try simp only [List.map_toArray, List.map_cons, List.map_nil]); first | done | rfl | (simp only [List.length_drop, List.length_take]; rfl)) ?_; (with_reducible refine (laws_szShow.calls k _ _ l0_0 _ _ l0_1 a0_2 1048576 t13002 _ ?side1 ?side2 ?side3 ?side4 A3.out).mono ?_); (case side1 => repeat (first | exact (Kd.C_below HR0_0.out HB.out) | (with_reducible refine Kd.C_alloc ?_ _) | (with_reducible refine Kd.C_drewN ?_ _) | (with_reducible refine Kd.C_drew ?_))); (case side2 => exact HC0_0.out); (case side3 => repeat (first | exact (Kd.C_below HR0_1.out HB.out) | (with_reducible refine Kd.C_alloc ?_ _) | (with_reducible refine Kd.C_drewN ?_ _) | (with_reducible refine Kd.C_drew ?_))); (case side4 => exact HC0_1.out); rintro e w7 ⟨rfl, hb⟩; refine ⟨_, rfl, ?_⟩; have n0_ := Aside0.mk (blk_below (g := gb13001) (o := .cells #[.slice A0_0 l0_0.length c0_0, .slice A0_1 l0_1.length c0_1, .int .i64 a0_2] 60 (0, 0)) (by (with_reducible repeat (first | refine blk_drewN ?_ _ | refine blk_drew ?_ | refine blk_alloc ?_ _)); exact BK13001.out) hb); have n1_ := Aside0.mk (below_step (by repeat (first | (with_reducible first | exact HB.out | apply below_alloc | apply pw_below_drewN | apply below_drew1 | refine below_set ?_ GE13001.out) | exact HB.out)) hb); clear BK13001; clear HB; have BK13001 := n0_; have HB := n1_; clear n0_ n1_; (try clear hb); (try clear hb2); (try clear hk); (try clear hi)))
    go_ret
    exact ⟨by first | rfl | (simp [errW_none, errW_some] <;> rfl) | (simp [*, errW_none, errW_some] <;> rfl), by repeat (first | (with_reducible first | exact HB.out | apply below_alloc | apply pw_below_drewN | apply below_drew1 | refine below_set ?_ GE13001.out) | exact HB.out)⟩
  · rw [if_neg c4] at H
    have c4b0 : decide (t13002 < 0) = false := decide_eq_false c4
    clear c4
    replace H := Option.bind_eq_some_iff.mp H
    obtain ⟨⟨t13003, t13006, t13009⟩, A80, H⟩ := H
    replace H : ((spec_BaseOf.f k t13003 t13006 t13009 a1).bind fun bt13010 => ((laws_toShow.f k l0_0 l0_1 a0_2).bind fun bt13013 => ((impl_BaseOf.f k bt13013.1 bt13013.2.1 bt13013.2.2 a1).bind fun bt13021 => (if bt13021.1 = bt13010.1 then (if bt13021.2.1 = bt13010.2.1 then (laws_FnExactBaseOf.j0 k (bt13021.2.2 != bt13010.2.2) l0_0 l0_1 a0_2 bt13013.1 bt13013.2.1 bt13013.2.2) else (laws_FnExactBaseOf.j0 k true l0_0 l0_1 a0_2 bt13013.1 bt13013.2.1 bt13013.2.2)) else (laws_FnExactBaseOf.j0 k true l0_0 l0_1 a0_2 bt13013.1 bt13013.2.1 bt13013.2.2))))) = some true := H
    have A8 := Aside0.mk A80
    clear A80
    replace H := Option.bind_eq_some_iff.mp H
    obtain ⟨⟨t13010, t13011, t13012⟩, A90, H⟩ := H
    replace H : ((laws_toShow.f k l0_0 l0_1 a0_2).bind fun bt13013 => ((impl_BaseOf.f k bt13013.1 bt13013.2.1 bt13013.2.2 a1).bind fun bt13021 => (if bt13021.1 = t13010 then (if bt13021.2.1 = t13011 then (laws_FnExactBaseOf.j0 k (bt13021.2.2 != t13012) l0_0 l0_1 a0_2 bt13013.1 bt13013.2.1 bt13013.2.2) else (laws_FnExactBaseOf.j0 k true l0_0 l0_1 a0_2 bt13013.1 bt13013.2.1 bt13013.2.2)) else (laws_FnExactBaseOf.j0 k true l0_0 l0_1 a0_2 bt13013.1 bt13013.2.1 bt13013.2.2)))) = some true := H
    have A9 := Aside0.mk A90
    clear A90
    replace H := Option.bind_eq_some_iff.mp H
    obtain ⟨⟨t13013, t13016, t13019⟩, A100, H⟩ := H
    replace H : ((impl_BaseOf.f k t13013 t13016 t13019 a1).bind fun bt13021 => (if bt13021.1 = t13010 then (if bt13021.2.1 = t13011 then (laws_FnExactBaseOf.j0 k (bt13021.2.2 != t13012) l0_0 l0_1 a0_2 t13013 t13016 t13019) else (laws_FnExactBaseOf.j0 k true l0_0 l0_1 a0_2 t13013 t13016 t13019)) else (laws_FnExactBaseOf.j0 k true l0_0 l0_1 a0_2 t13013 t13016 t13019))) = some true := H
    have A10 := Aside0.mk A100
    clear A100
    replace H := Option.bind_eq_some_iff.mp H
    obtain ⟨⟨t13021, t13022, t13023⟩, A110, H⟩ := H
    replace H : (if t13021 = t13010 then (if t13022 = t13011 then (laws_FnExactBaseOf.j0 k (t13023 != t13012) l0_0 l0_1 a0_2 t13013 t13016 t13019) else (laws_FnExactBaseOf.j0 k true l0_0 l0_1 a0_2 t13013 t13016 t13019)) else (laws_FnExactBaseOf.j0 k true l0_0 l0_1 a0_2 t13013 t13016 t13019)) = some true := H
    have A11 := Aside0.mk A110
    clear A110
    have HC12 := Aside0.mk H
    clear H
    go_enter Try.func13, Try.ntmps13
    go_upto_region 8 with (first | ((with_reducible refine gate_dst (N := 2) rfl ?_); refine box_event ?hg (N := 2) ?hd (cs := #[.slice A0_0 l0_0.length c0_0, .slice A0_1 l0_1.length c0_1, .int .i64 a0_2]) (t := 60) ?hr ?_; (case hd => rfl); (case hg => rfl); (case hr => first | (go_simp; done) | (go_simp; rfl)); intro gb13001 hg w13 hbox hb; have n0_ := Aside0.mk (below_step (by repeat (first | (with_reducible first | exact HB.out | apply below_alloc | apply pw_below_drewN | apply below_drew1) | exact HB.out)) hb); have n1_ := Aside0.mk (hbox); have n2_ := Aside0.mk ((by rw [hg]; exact (below_size (by repeat (first | (with_reducible first | exact HB.out | apply below_alloc | apply pw_below_drewN | apply below_drew1) | exact HB.out))) : w.heap.size ≤ gb13001)); have n3_ := Aside0.mk ((by rw [hg]; exact (below_size (by repeat (first | (with_reducible first | exact HB.out | apply below_alloc | apply pw_below_drewN | apply below_drew1) | exact HB.out))) : w.heap.size ≤ gb13001)); clear HB; have HB := n0_; have BK13001 := n1_; have GW13001 := n2_; have GE13001 := n3_; clear n0_ n1_ n2_ n3_; clear hb hbox hg; have hcz14_0 : w13.cell? ⟨gb13001, 0, none⟩ = some (.slice A0_0 l0_0.length c0_0) := (blk_cell BK13001.out 0).trans rfl; have hcz14_1 : w13.cell? ⟨gb13001, 1, none⟩ = some (.slice A0_1 l0_1.length c0_1) := (blk_cell BK13001.out 1).trans rfl; have hcz14_2 : w13.cell? ⟨gb13001, 2, none⟩ = some (.int .i64 a0_2) := (blk_cell BK13001.out 2).trans rfl; have hfz14_0 := blk_frozen BK13001.out 0; have hfz14_1 := blk_frozen BK13001.out 1; have hfz14_2 := blk_frozen BK13001.out 2) | ((with_reducible refine gate_callee (f := 41) rfl ?_); refine goesL_ (some 15) rfl rfl Try.func41 (by kernel_rfl) rfl #[.agg #[.slice A0_0 l0_0.length c0_0, .slice A0_1 l0_1.length c0_1, .int .i64 a0_2], .int .i64 1048576] rfl (by (try simp only [List.map_toArray, List.map_cons, List.map_nil]); first | done | rfl | (simp only [List.length_drop, List.length_take]; rfl)) ?_; (with_reducible refine (laws_szShow.calls k _ _ l0_0 _ _ l0_1 a0_2 1048576 t13002 _ ?side1 ?side2 ?side3 ?side4 A3.out).mono ?_); (case side1 => repeat (first | exact (Kd.C_below HR0_0.out HB.out) | (with_reducible refine Kd.C_alloc ?_ _) | (with_reducible refine Kd.C_drewN ?_ _) | (with_reducible refine Kd.C_drew ?_))); (case side2 => exact HC0_0.out); (case side3 => repeat (first | exact (Kd.C_below HR0_1.out HB.out) | (with_reducible refine Kd.C_alloc ?_ _) | (with_reducible refine Kd.C_drewN ?_ _) | (with_reducible refine Kd.C_drew ?_))); (case side4 => exact HC0_1.out); rintro e w15 ⟨rfl, hb⟩; refine ⟨_, rfl, ?_⟩; have n0_ := Aside0.mk (blk_below (g := gb13001) (o := .cells #[.slice A0_0 l0_0.length c0_0, .slice A0_1 l0_1.length c0_1, .int .i64 a0_2] 60 (0, 0)) (by (with_reducible repeat (first | refine blk_drewN ?_ _ | refine blk_drew ?_ | refine blk_alloc ?_ _)); exact BK13001.out) hb); have n1_ := Aside0.mk (below_step (by repeat (first | (with_reducible first | exact HB.out | apply below_alloc | apply pw_below_drewN | apply below_drew1 | refine below_set ?_ GE13001.out) | exact HB.out)) hb); clear BK13001; clear HB; have BK13001 := n0_; have HB := n1_; clear n0_ n1_; (try clear hb); (try clear hb2); (try clear hk); (try clear hi); have hcz16_0 : w15.cell? ⟨gb13001, 0, none⟩ = some (.slice A0_0 l0_0.length c0_0) := (blk_cell BK13001.out 0).trans rfl; have hcz16_1 : w15.cell? ⟨gb13001, 1, none⟩ = some (.slice A0_1 l0_1.length c0_1) := (blk_cell BK13001.out 1).trans rfl; have hcz16_2 : w15.cell? ⟨gb13001, 2, none⟩ = some (.int .i64 a0_2) := (blk_cell BK13001.out 2).trans rfl; have hfz16_0 := blk_frozen BK13001.out 0; have hfz16_1 := blk_frozen BK13001.out 1; have hfz16_2 := blk_frozen BK13001.out 2) | ((with_reducible refine gate_callee (f := 43) rfl ?_); refine goesL_ (some 20) rfl rfl Try.func43 (by kernel_rfl) rfl #[.agg #[.slice A0_0 l0_0.length c0_0, .slice A0_1 l0_1.length c0_1, .int .i64 a0_2]] rfl (by (try simp only [List.map_toArray, List.map_cons, List.map_nil]); first | done | rfl | (simp only [List.length_drop, List.length_take]; rfl)) ?_; (with_reducible refine (laws_toShow.calls k _ _ l0_0 _ _ l0_1 a0_2 t13003 t13006 t13009 _ ?side1 ?side2 ?side3 ?side4 A8.out).mono ?_); (case side1 => repeat (first | exact (Kd.C_below HR0_0.out HB.out) | (with_reducible refine Kd.C_alloc ?_ _) | (with_reducible refine Kd.C_drewN ?_ _) | (with_reducible refine Kd.C_drew ?_))); (case side2 => exact HC0_0.out); (case side3 => repeat (first | exact (Kd.C_below HR0_1.out HB.out) | (with_reducible refine Kd.C_alloc ?_ _) | (with_reducible refine Kd.C_drewN ?_ _) | (with_reducible refine Kd.C_drew ?_))); (case side4 => exact HC0_1.out); rintro e w17 ⟨v13004, v13007, rfl, ho0, ho1, hb⟩; refine ⟨_, rfl, ?_⟩; have n0_ := Aside0.mk (Kd.S_lower ho0 (below_size (by repeat (first | (with_reducible first | exact HB.out | apply below_alloc | apply pw_below_drewN | apply below_drew1 | refine below_set ?_ GE13001.out) | exact HB.out)))); have n1_ := Aside0.mk (Kd.R_lower ho1 (below_size (by repeat (first | (with_reducible first | exact HB.out | apply below_alloc | apply pw_below_drewN | apply below_drew1 | refine below_set ?_ GE13001.out) | exact HB.out)))); have n2_ := Aside0.mk (blk_below (g := gb13001) (o := .cells #[.slice A0_0 l0_0.length c0_0, .slice A0_1 l0_1.length c0_1, .int .i64 a0_2] 60 (0, 0)) (by (with_reducible repeat (first | refine blk_drewN ?_ _ | refine blk_drew ?_ | refine blk_alloc ?_ _)); exact BK13001.out) hb); have n3_ := Aside0.mk (below_step (by repeat (first | (with_reducible first | exact HB.out | apply below_alloc | apply pw_below_drewN | apply below_drew1 | refine below_set ?_ GE13001.out) | exact HB.out)) hb); clear BK13001; clear HB; have HO13005 := n0_; have HO13008 := n1_; have BK13001 := n2_; have HB := n3_; clear n0_ n1_ n2_ n3_; (try clear hb); (try clear hb2); (try clear hk); (try clear hi); (try clear ho0); (try clear ho1); obtain ⟨Ao18, co18, eo18⟩ := Kd.S_slice HO13005.out; subst eo18; obtain ⟨Ao19, co19, eo19⟩ := Kd.R_slice HO13008.out; subst eo19) | ((with_reducible refine gate_callee (f := 54) rfl ?_); refine goesL_ (some 22) rfl rfl Try.func54 (by kernel_rfl) rfl #[.agg #[.slice Ao18 t13003.length co18, .slice Ao19 t13006.length co19, .int .i64 t13009], .int .i64 a1] rfl (by (try simp only [List.map_toArray, List.map_cons, List.map_nil]); first | done | rfl | (simp only [List.length_drop, List.length_take]; rfl)) ?_; (with_reducible refine (spec_BaseOf.calls k _ _ t13003 _ _ t13006 t13009 a1 t13010 t13011 t13012 _ ?side1 ?side2 ?side3 ?side4 A9.out).mono ?_); (case side1 => repeat (first | exact (Kd.S_reads' HO13005.out).2.2 | (with_reducible refine Kd.C_alloc ?_ _) | (with_reducible refine Kd.C_drewN ?_ _) | (with_reducible refine Kd.C_drew ?_))); (case side2 => exact (Kd.S_reads' HO13005.out).2.1); (case side3 => repeat (first | exact (Kd.R_reads' HO13008.out).2.2 | (with_reducible refine Kd.C_alloc ?_ _) | (with_reducible refine Kd.C_drewN ?_ _) | (with_reducible refine Kd.C_drew ?_))); (case side4 => exact (Kd.R_reads' HO13008.out).2.1); rintro e w20 ⟨rfl, hb⟩; refine ⟨_, rfl, ?_⟩; have n0_ := Aside0.mk (Kd.S_below (by (with_reducible repeat (first | apply Kd.S_alloc | apply Kd.S_drewN | apply Kd.S_drew)); exact HO13005.out) hb); have n1_ := Aside0.mk (Kd.R_below (by (with_reducible repeat (first | apply Kd.R_alloc | apply Kd.R_drewN | apply Kd.R_drew)); exact HO13008.out) hb); have n2_ := Aside0.mk (blk_below (g := gb13001) (o := .cells #[.slice A0_0 l0_0.length c0_0, .slice A0_1 l0_1.length c0_1, .int .i64 a0_2] 60 (0, 0)) (by (with_reducible repeat (first | refine blk_drewN ?_ _ | refine blk_drew ?_ | refine blk_alloc ?_ _)); exact BK13001.out) hb); have n3_ := Aside0.mk (below_step (by repeat (first | (with_reducible first | exact HB.out | apply below_alloc | apply pw_below_drewN | apply below_drew1 | refine below_set ?_ GE13001.out) | exact HB.out)) hb); clear HO13005; clear HO13008; clear BK13001; clear HB; have HO13005 := n0_; have HO13008 := n1_; have BK13001 := n2_; have HB := n3_; clear n0_ n1_ n2_ n3_; (try clear hb); (try clear hb2); (try clear hk); (try clear hi); have hcz21_0 : w20.cell? ⟨gb13001, 0, none⟩ = some (.slice A0_0 l0_0.length c0_0) := (blk_cell BK13001.out 0).trans rfl; have hcz21_1 : w20.cell? ⟨gb13001, 1, none⟩ = some (.slice A0_1 l0_1.length c0_1) := (blk_cell BK13001.out 1).trans rfl; have hcz21_2 : w20.cell? ⟨gb13001, 2, none⟩ = some (.int .i64 a0_2) := (blk_cell BK13001.out 2).trans rfl; have hfz21_0 := blk_frozen BK13001.out 0; have hfz21_1 := blk_frozen BK13001.out 1; have hfz21_2 := blk_frozen BK13001.out 2) | ((with_reducible refine gate_callee (f := 43) rfl ?_); refine goesL_ (some 27) rfl rfl Try.func43 (by kernel_rfl) rfl #[.agg #[.slice A0_0 l0_0.length c0_0, .slice A0_1 l0_1.length c0_1, .int .i64 a0_2]] rfl (by (try simp only [List.map_toArray, List.map_cons, List.map_nil]); first | done | rfl | (simp only [List.length_drop, List.length_take]; rfl)) ?_; (with_reducible refine (laws_toShow.calls k _ _ l0_0 _ _ l0_1 a0_2 t13013 t13016 t13019 _ ?side1 ?side2 ?side3 ?side4 A10.out).mono ?_); (case side1 => repeat (first | exact (Kd.C_below HR0_0.out HB.out) | (with_reducible refine Kd.C_alloc ?_ _) | (with_reducible refine Kd.C_drewN ?_ _) | (with_reducible refine Kd.C_drew ?_))); (case side2 => exact HC0_0.out); (case side3 => repeat (first | exact (Kd.C_below HR0_1.out HB.out) | (with_reducible refine Kd.C_alloc ?_ _) | (with_reducible refine Kd.C_drewN ?_ _) | (with_reducible refine Kd.C_drew ?_))); (case side4 => exact HC0_1.out); rintro e w22 ⟨v13014, v13017, rfl, ho0, ho1, hb⟩; refine ⟨_, rfl, ?_⟩; have n0_ := Aside0.mk (Kd.S_elder' (by (with_reducible repeat (first | apply Kd.S_alloc | apply Kd.S_drewN | apply Kd.S_drew)); exact HO13005.out) (Kd.S_base ho0) hb); have n1_ := Aside0.mk (Kd.R_elder' (by (with_reducible repeat (first | apply Kd.R_alloc | apply Kd.R_drewN | apply Kd.R_drew)); exact HO13008.out) (Kd.R_base ho1) hb); have n2_ := Aside0.mk (Kd.S_lower (Kd.S_new' ho0 (Kd.S_lt (by (with_reducible repeat (first | apply Kd.S_alloc | apply Kd.S_drewN | apply Kd.S_drew)); exact HO13005.out))) (below_size (by repeat (first | (with_reducible first | exact HB.out | apply below_alloc | apply pw_below_drewN | apply below_drew1 | refine below_set ?_ GE13001.out) | exact HB.out)))); have n3_ := Aside0.mk (Kd.R_lower (Kd.R_new' ho1 (Kd.R_lt (by (with_reducible repeat (first | apply Kd.R_alloc | apply Kd.R_drewN | apply Kd.R_drew)); exact HO13008.out))) (below_size (by repeat (first | (with_reducible first | exact HB.out | apply below_alloc | apply pw_below_drewN | apply below_drew1 | refine below_set ?_ GE13001.out) | exact HB.out)))); have n4_ := Aside0.mk (blk_below (g := gb13001) (o := .cells #[.slice A0_0 l0_0.length c0_0, .slice A0_1 l0_1.length c0_1, .int .i64 a0_2] 60 (0, 0)) (by (with_reducible repeat (first | refine blk_drewN ?_ _ | refine blk_drew ?_ | refine blk_alloc ?_ _)); exact BK13001.out) hb); have n5_ := Aside0.mk (below_step (by repeat (first | (with_reducible first | exact HB.out | apply below_alloc | apply pw_below_drewN | apply below_drew1 | refine below_set ?_ GE13001.out) | exact HB.out)) hb); clear HO13005; clear HO13008; clear BK13001; clear HB; have HO13005 := n0_; have HO13008 := n1_; have HO13015 := n2_; have HO13018 := n3_; have BK13001 := n4_; have HB := n5_; clear n0_ n1_ n2_ n3_ n4_ n5_; (try clear hb); (try clear hb2); (try clear hk); (try clear hi); (try clear ho0); (try clear ho1)) | ((with_reducible refine gate_dst (N := 9) rfl ?_); refine box_event ?hg (N := 9) ?hd (cs := #[.slice none 0 0, .slice none 0 0, .int .i64 0]) (t := 66) ?hr ?_; (case hd => rfl); (case hg => rfl); (case hr => first | (go_simp; done) | (go_simp; rfl)); intro gb13020 hg w23 hbox hb; have n0_ := Aside0.mk (Kd.S_below (by (with_reducible repeat (first | apply Kd.S_alloc | apply Kd.S_drewN | apply Kd.S_drew)); exact HO13005.out) hb); have n1_ := Aside0.mk (Kd.R_below (by (with_reducible repeat (first | apply Kd.R_alloc | apply Kd.R_drewN | apply Kd.R_drew)); exact HO13008.out) hb); have n2_ := Aside0.mk (Kd.S_below (by (with_reducible repeat (first | apply Kd.S_alloc | apply Kd.S_drewN | apply Kd.S_drew)); exact HO13015.out) hb); have n3_ := Aside0.mk (Kd.R_below (by (with_reducible repeat (first | apply Kd.R_alloc | apply Kd.R_drewN | apply Kd.R_drew)); exact HO13018.out) hb); have n4_ := Aside0.mk (blk_below (g := gb13001) (o := .cells #[.slice A0_0 l0_0.length c0_0, .slice A0_1 l0_1.length c0_1, .int .i64 a0_2] 60 (0, 0)) (by (with_reducible repeat (first | refine blk_drewN ?_ _ | refine blk_drew ?_ | refine blk_alloc ?_ _)); exact BK13001.out) hb); have n5_ := Aside0.mk (below_step (by repeat (first | (with_reducible first | exact HB.out | apply below_alloc | apply pw_below_drewN | apply below_drew1 | refine below_set ?_ GE13001.out) | exact HB.out)) hb); have n6_ := Aside0.mk (hbox); have n7_ := Aside0.mk ((by rw [hg]; exact (below_size (by repeat (first | (with_reducible first | exact HB.out | apply below_alloc | apply pw_below_drewN | apply below_drew1 | refine below_set ?_ GE13001.out) | exact HB.out))) : w.heap.size ≤ gb13020)); have n8_ := Aside0.mk ((by rw [hg]; exact (below_size (by repeat (first | (with_reducible first | exact HB.out | apply below_alloc | apply pw_below_drewN | apply below_drew1 | refine below_set ?_ GE13001.out) | exact HB.out))) : w.heap.size ≤ gb13020)); have n9_ := Aside0.mk ((by rw [hg]; exact Nat.ne_of_lt (blk_lt (g := gb13001) (o := .cells #[.slice A0_0 l0_0.length c0_0, .slice A0_1 l0_1.length c0_1, .int .i64 a0_2] 60 (0, 0)) (by (with_reducible repeat (first | refine blk_drewN ?_ _ | refine blk_drew ?_ | refine blk_alloc ?_ _)); exact BK13001.out)) : gb13001 ≠ gb13020)); have n10_ := Aside0.mk ((by rw [hg]; exact Nat.ne_of_gt (blk_lt (g := gb13001) (o := .cells #[.slice A0_0 l0_0.length c0_0, .slice A0_1 l0_1.length c0_1, .int .i64 a0_2] 60 (0, 0)) (by (with_reducible repeat (first | refine blk_drewN ?_ _ | refine blk_drew ?_ | refine blk_alloc ?_ _)); exact BK13001.out)) : gb13020 ≠ gb13001)); clear HO13005; clear HO13008; clear HO13015; clear HO13018; clear BK13001; clear HB; have HO13005 := n0_; have HO13008 := n1_; have HO13015 := n2_; have HO13018 := n3_; have BK13001 := n4_; have HB := n5_; have BK13020 := n6_; have GW13020 := n7_; have GE13020 := n8_; have NB13001_13020 := n9_; have NB13020_13001 := n10_; clear n0_ n1_ n2_ n3_ n4_ n5_ n6_ n7_ n8_ n9_ n10_; clear hb hbox hg; obtain ⟨Ao24, co24, eo24⟩ := Kd.S_slice HO13015.out; subst eo24; have hnb25 := NB13020_13001.out; have hnc25 := NB13001_13020.out; have hcz26_0 : w23.cell? ⟨gb13020, 0, none⟩ = some (.slice none 0 0) := (blk_cell BK13020.out 0).trans rfl; have hcz26_1 : w23.cell? ⟨gb13020, 1, none⟩ = some (.slice none 0 0) := (blk_cell BK13020.out 1).trans rfl; have hcz26_2 : w23.cell? ⟨gb13020, 2, none⟩ = some (.int .i64 0) := (blk_cell BK13020.out 2).trans rfl; have hfz26_0 := blk_frozen BK13020.out 0; have hfz26_1 := blk_frozen BK13020.out 1; have hfz26_2 := blk_frozen BK13020.out 2; obtain ⟨Ao27, co27, eo27⟩ := Kd.R_slice HO13018.out; subst eo27) | ((with_reducible refine gate_callee (f := 55) rfl ?_); refine goesL_ (some 31) rfl rfl Try.func55 (by kernel_rfl) rfl #[.agg #[.slice Ao24 t13013.length co24, .slice Ao27 t13016.length co27, .int .i64 t13019], .int .i64 a1] rfl (by (try simp only [List.map_toArray, List.map_cons, List.map_nil]); first | done | rfl | (simp only [List.length_drop, List.length_take]; rfl)) ?_; (with_reducible refine (impl_BaseOf.calls k _ _ t13013 _ _ t13016 t13019 a1 t13021 t13022 t13023 _ ?side1 ?side2 ?side3 ?side4 A11.out).mono ?_); (case side1 => refine (Kd.S_reads' (e := 120) (base := w.heap.size) (ok := fun k_ => (True ∧ some k_ ≠ (.slice Ao18 t13003.length co18 : Value).ownBlock)) (n := t13013.length) (c := co24) ?_).2.2; exact (by (with_reducible repeat (first | apply Kd.S_alloc | apply Kd.S_drewN | apply Kd.S_drew)); exact (Kd.S_mono (Kd.S_far (p := ⟨gb13020, 2, none⟩) (Kd.S_far (p := ⟨gb13020, 1, none⟩) (Kd.S_far (p := ⟨gb13020, 0, none⟩) (Kd.S_types HO13015.out BK13020.out (by decide)) (fun _ hk => hk.2) (.slice Ao24 t13013.length co24)) (fun _ hk => hk.2) (.slice Ao27 t13016.length co27)) (fun _ hk => hk.2) (.int .i64 t13019)) (fun _ h_ => h_.1)))); (case side2 => exact (Kd.S_reads' HO13015.out).2.1); (case side3 => refine (Kd.R_reads' (e := 126) (base := w.heap.size) (ok := fun k_ => (True ∧ some k_ ≠ (.slice Ao19 t13006.length co19 : Value).ownBlock)) (n := t13016.length) (c := co27) ?_).2.2; exact (by (with_reducible repeat (first | apply Kd.R_alloc | apply Kd.R_drewN | apply Kd.R_drew)); exact (Kd.R_mono (Kd.R_far (p := ⟨gb13020, 2, none⟩) (Kd.R_far (p := ⟨gb13020, 1, none⟩) (Kd.R_far (p := ⟨gb13020, 0, none⟩) (Kd.R_types HO13018.out BK13020.out (by decide)) (fun _ hk => hk.2) (.slice Ao24 t13013.length co24)) (fun _ hk => hk.2) (.slice Ao27 t13016.length co27)) (fun _ hk => hk.2) (.int .i64 t13019)) (fun _ h_ => h_.1)))); (case side4 => exact (Kd.R_reads' HO13018.out).2.1); rintro e w28 ⟨rfl, hb⟩; refine ⟨_, rfl, ?_⟩; have n0_ := Aside0.mk (Kd.S_below (by (with_reducible repeat (first | apply Kd.S_alloc | apply Kd.S_drewN | apply Kd.S_drew)); exact (Kd.S_mono (Kd.S_far (p := ⟨gb13020, 2, none⟩) (Kd.S_far (p := ⟨gb13020, 1, none⟩) (Kd.S_far (p := ⟨gb13020, 0, none⟩) (Kd.S_types HO13005.out BK13020.out (by decide)) (fun _ hk => hk.2) (.slice Ao24 t13013.length co24)) (fun _ hk => hk.2) (.slice Ao27 t13016.length co27)) (fun _ hk => hk.2) (.int .i64 t13019)) (fun _ h_ => h_.1))) hb); have n1_ := Aside0.mk (Kd.R_below (by (with_reducible repeat (first | apply Kd.R_alloc | apply Kd.R_drewN | apply Kd.R_drew)); exact (Kd.R_mono (Kd.R_far (p := ⟨gb13020, 2, none⟩) (Kd.R_far (p := ⟨gb13020, 1, none⟩) (Kd.R_far (p := ⟨gb13020, 0, none⟩) (Kd.R_types HO13008.out BK13020.out (by decide)) (fun _ hk => hk.2) (.slice Ao24 t13013.length co24)) (fun _ hk => hk.2) (.slice Ao27 t13016.length co27)) (fun _ hk => hk.2) (.int .i64 t13019)) (fun _ h_ => h_.1))) hb); have n2_ := Aside0.mk (Kd.S_below (by (with_reducible repeat (first | apply Kd.S_alloc | apply Kd.S_drewN | apply Kd.S_drew)); exact (Kd.S_mono (Kd.S_far (p := ⟨gb13020, 2, none⟩) (Kd.S_far (p := ⟨gb13020, 1, none⟩) (Kd.S_far (p := ⟨gb13020, 0, none⟩) (Kd.S_types HO13015.out BK13020.out (by decide)) (fun _ hk => hk.2) (.slice Ao24 t13013.length co24)) (fun _ hk => hk.2) (.slice Ao27 t13016.length co27)) (fun _ hk => hk.2) (.int .i64 t13019)) (fun _ h_ => h_.1))) hb); have n3_ := Aside0.mk (Kd.R_below (by (with_reducible repeat (first | apply Kd.R_alloc | apply Kd.R_drewN | apply Kd.R_drew)); exact (Kd.R_mono (Kd.R_far (p := ⟨gb13020, 2, none⟩) (Kd.R_far (p := ⟨gb13020, 1, none⟩) (Kd.R_far (p := ⟨gb13020, 0, none⟩) (Kd.R_types HO13018.out BK13020.out (by decide)) (fun _ hk => hk.2) (.slice Ao24 t13013.length co24)) (fun _ hk => hk.2) (.slice Ao27 t13016.length co27)) (fun _ hk => hk.2) (.int .i64 t13019)) (fun _ h_ => h_.1))) hb); have n4_ := Aside0.mk (blk_below (g := gb13001) (o := .cells #[.slice A0_0 l0_0.length c0_0, .slice A0_1 l0_1.length c0_1, .int .i64 a0_2] 60 (0, 0)) (by (with_reducible repeat (first | refine blk_drewN ?_ _ | refine blk_drew ?_ | refine blk_alloc ?_ _)); refine blk_far ?_ NB13001_13020.out _; (with_reducible repeat (first | refine blk_drewN ?_ _ | refine blk_drew ?_ | refine blk_alloc ?_ _)); refine blk_far ?_ NB13001_13020.out _; (with_reducible repeat (first | refine blk_drewN ?_ _ | refine blk_drew ?_ | refine blk_alloc ?_ _)); refine blk_far ?_ NB13001_13020.out _; (with_reducible repeat (first | refine blk_drewN ?_ _ | refine blk_drew ?_ | refine blk_alloc ?_ _)); exact BK13001.out) hb); have n5_ := Aside0.mk (blk_below (g := gb13020) (o := .cells #[.slice Ao24 t13013.length co24, .slice Ao27 t13016.length co27, .int .i64 t13019] 66 (0, 0)) (by (with_reducible repeat (first | refine blk_drewN ?_ _ | refine blk_drew ?_ | refine blk_alloc ?_ _)); refine blk_put (cs := #[.slice Ao24 t13013.length co24, .slice Ao27 t13016.length co27, .int .i64 0]) ?_ 2 _ rfl; (with_reducible repeat (first | refine blk_drewN ?_ _ | refine blk_drew ?_ | refine blk_alloc ?_ _)); refine blk_put (cs := #[.slice Ao24 t13013.length co24, .slice none 0 0, .int .i64 0]) ?_ 1 _ rfl; (with_reducible repeat (first | refine blk_drewN ?_ _ | refine blk_drew ?_ | refine blk_alloc ?_ _)); refine blk_put (cs := #[.slice none 0 0, .slice none 0 0, .int .i64 0]) ?_ 0 _ rfl; (with_reducible repeat (first | refine blk_drewN ?_ _ | refine blk_drew ?_ | refine blk_alloc ?_ _)); exact BK13020.out) hb); have n6_ := Aside0.mk (below_step (by repeat (first | (with_reducible first | exact HB.out | apply below_alloc | apply pw_below_drewN | apply below_drew1 | refine below_set ?_ GE13001.out | refine below_set ?_ GE13020.out) | exact HB.out)) hb); clear HO13005; clear HO13008; clear HO13015; clear HO13018; clear BK13001; clear BK13020; clear HB; have HO13005 := n0_; have HO13008 := n1_; have HO13015 := n2_; have HO13018 := n3_; have BK13001 := n4_; have BK13020 := n5_; have HB := n6_; clear n0_ n1_ n2_ n3_ n4_ n5_ n6_; (try clear hb); (try clear hb2); (try clear hk); (try clear hi)))
    (try simp only [Act.put, List.setIfInBounds_toArray, List.set_cons_zero, List.set_cons_succ])
    go_cut [47] (fun v47 wc => ∃ (kq : Nat) (x47_11 : Bool), v47 = .bool x47_11 ∧ Aside0 (laws_FnExactBaseOf.j0 kq x47_11 l0_0 l0_1 a0_2 t13013 t13016 t13019 = some true) ∧ Aside0 (kq ≤ k) ∧ Aside0 (Kd.S k120 120 wc w.heap.size (fun _ => True) (.slice Ao24 t13013.length co24) t13013) ∧ Aside0 (Kd.R k126 126 wc w.heap.size (fun _ => True) (.slice Ao27 t13016.length co27) t13016) ∧ Aside0 (wc.heap[gb13001]? = some (.cells #[(.slice A0_0 l0_0.length c0_0), (.slice A0_1 l0_1.length c0_1), .int .i64 a0_2] 60 (0, 0))) ∧ Aside0 (wc.heap[gb13020]? = some (.cells #[(.slice Ao24 t13013.length co24), (.slice Ao27 t13016.length co27), .int .i64 t13019] 66 (0, 0))) ∧ Aside0 (Below w.heap.size w wc))
    case first =>
      have H := HC12.out
      clear HC12
      by_cases c29 : t13021 = t13010
      · rw [if_pos c29] at H
        have c29b0 : (t13021 == t13010) = true := beq_iff_eq.mpr c29
        have c29b1 : (t13021 != t13010) = false := bne_eq_false_iff_eq.mpr c29
        clear c29
        (first | rw [c29b0] | (simp only [i64_w, i32_w]; rw [c29b0]) | skip)
        by_cases c30 : t13022 = t13011
        · rw [if_pos c30] at H
          have c30b0 : (t13022 == t13011) = true := beq_iff_eq.mpr c30
          have c30b1 : (t13022 != t13011) = false := bne_eq_false_iff_eq.mpr c30
          clear c30
          have H' := Aside0.mk H
          clear H
          go_wp2
          go_meet
          case rel => exact ⟨_, ((t13023 != t13012)), (by first | rfl | (simp; done) | (simp [*]; done)), H', ⟨by first | omega | exact Nat.le_refl _⟩, ⟨by (with_reducible repeat (first | apply Kd.S_alloc | apply Kd.S_drewN | apply Kd.S_drew)); exact Kd.S_mono HO13015.out (fun _ hk => trivial)⟩, ⟨by (with_reducible repeat (first | apply Kd.R_alloc | apply Kd.R_drewN | apply Kd.R_drew)); exact Kd.R_mono HO13018.out (fun _ hk => trivial)⟩, ⟨by (with_reducible repeat (first | refine blk_drewN ?_ _ | refine blk_drew ?_ | refine blk_alloc ?_ _)); exact BK13001.out⟩, ⟨by (with_reducible repeat (first | refine blk_drewN ?_ _ | refine blk_drew ?_ | refine blk_alloc ?_ _)); exact BK13020.out⟩, ⟨by repeat (first | (with_reducible first | exact HB.out | apply below_alloc | apply pw_below_drewN | apply below_drew1 | refine below_set ?_ GE13001.out | refine below_set ?_ GE13020.out) | exact HB.out)⟩⟩
        · rw [if_neg c30] at H
          have c30b0 : (t13022 == t13011) = false := beq_eq_false_iff_ne.mpr c30
          have c30b1 : (t13022 != t13011) = true := bne_iff_ne.mpr c30
          have H' := Aside0.mk H
          clear H
          go_wp2
          go_meet
          case rel => exact ⟨_, (true), (by first | rfl | (simp; done) | (simp [*]; done)), H', ⟨by first | omega | exact Nat.le_refl _⟩, ⟨by (with_reducible repeat (first | apply Kd.S_alloc | apply Kd.S_drewN | apply Kd.S_drew)); exact Kd.S_mono HO13015.out (fun _ hk => trivial)⟩, ⟨by (with_reducible repeat (first | apply Kd.R_alloc | apply Kd.R_drewN | apply Kd.R_drew)); exact Kd.R_mono HO13018.out (fun _ hk => trivial)⟩, ⟨by (with_reducible repeat (first | refine blk_drewN ?_ _ | refine blk_drew ?_ | refine blk_alloc ?_ _)); exact BK13001.out⟩, ⟨by (with_reducible repeat (first | refine blk_drewN ?_ _ | refine blk_drew ?_ | refine blk_alloc ?_ _)); exact BK13020.out⟩, ⟨by repeat (first | (with_reducible first | exact HB.out | apply below_alloc | apply pw_below_drewN | apply below_drew1 | refine below_set ?_ GE13001.out | refine below_set ?_ GE13020.out) | exact HB.out)⟩⟩
      · rw [if_neg c29] at H
        have c29b0 : (t13021 == t13010) = false := beq_eq_false_iff_ne.mpr c29
        have c29b1 : (t13021 != t13010) = true := bne_iff_ne.mpr c29
        (first | rw [c29b0] | (simp only [i64_w, i32_w]; rw [c29b0]) | skip)
        have H' := Aside0.mk H
        clear H
        go_wp2
        go_meet
        case rel => exact ⟨_, (true), (by first | rfl | (simp; done) | (simp [*]; done)), H', ⟨by first | omega | exact Nat.le_refl _⟩, ⟨by (with_reducible repeat (first | apply Kd.S_alloc | apply Kd.S_drewN | apply Kd.S_drew)); exact Kd.S_mono HO13015.out (fun _ hk => trivial)⟩, ⟨by (with_reducible repeat (first | apply Kd.R_alloc | apply Kd.R_drewN | apply Kd.R_drew)); exact Kd.R_mono HO13018.out (fun _ hk => trivial)⟩, ⟨by (with_reducible repeat (first | refine blk_drewN ?_ _ | refine blk_drew ?_ | refine blk_alloc ?_ _)); exact BK13001.out⟩, ⟨by (with_reducible repeat (first | refine blk_drewN ?_ _ | refine blk_drew ?_ | refine blk_alloc ?_ _)); exact BK13020.out⟩, ⟨by repeat (first | (with_reducible first | exact HB.out | apply below_alloc | apply pw_below_drewN | apply below_drew1 | refine below_set ?_ GE13001.out | refine below_set ?_ GE13020.out) | exact HB.out)⟩⟩
    case rest =>
      clear HC12
      try clear c1
      try clear c2
      try clear p2
      try clear c3
      try clear c4
      try clear c4b0
      try clear c5
      try clear c13
      try clear c25
      try clear c29
      try clear c29b0
      try clear c29b1
      try clear c30
      try clear c30b0
      try clear c30b1
      try clear hcz14_0
      try clear hcz14_1
      try clear hcz14_2
      try clear hcz16_0
      try clear hcz16_1
      try clear hcz16_2
      try clear hcz21_0
      try clear hcz21_1
      try clear hcz21_2
      try clear hcz26_0
      try clear hcz26_1
      try clear hcz26_2
      try clear hcz6_0
      try clear hcz6_1
      try clear hcz6_2
      try clear hfz14_0
      try clear hfz14_1
      try clear hfz14_2
      try clear hfz16_0
      try clear hfz16_1
      try clear hfz16_2
      try clear hfz21_0
      try clear hfz21_1
      try clear hfz21_2
      try clear hfz26_0
      try clear hfz26_1
      try clear hfz26_2
      try clear hfz6_0
      try clear hfz6_1
      try clear hfz6_2
      obtain ⟨kq, x47_11, rfl, HA, HJ11, HO_13021000, HO_13021001, BK13001, BK13020, HB⟩ := hcut
      cases kq with
      | zero => exact absurd HA.out (by simp [laws_FnExactBaseOf.j0])
      | succ kj11 =>
        have H := HA.out
        clear HA
        simp only [laws_FnExactBaseOf.j0] at H
        by_cases c31 : x47_11 = true
        · subst c31
          exact absurd H (by simp)
        · replace c31 := Bool.eq_false_iff.mpr c31
          subst c31
          have H1 : ((laws_toShow.f kj11 l0_0 l0_1 a0_2).bind fun bt13024 => ((laws_eqShow.f kj11 t13013 t13016 t13019 bt13024.1 bt13024.2.1 bt13024.2.2).bind fun t13031 => (if t13031 = true then (some true) else (some false)))) = some true := by rw [if_neg (show ¬ (false = true) by decide)] at H; first | done | exact H
          clear H
          have H := H1
          clear H1
          replace H := Option.bind_eq_some_iff.mp H
          obtain ⟨⟨t13024, t13027, t13030⟩, A320, H⟩ := H
          replace H : ((laws_eqShow.f kj11 t13013 t13016 t13019 t13024 t13027 t13030).bind fun t13031 => (if t13031 = true then (some true) else (some false))) = some true := H
          have A32 := Aside0.mk A320
          clear A320
          replace H := Option.bind_eq_some_iff.mp H
          obtain ⟨t13031, A330, H⟩ := H
          replace H : (if t13031 = true then (some true) else (some false)) = some true := H
          have A33 := Aside0.mk A330
          clear A330
          by_cases c34 : t13031 = true
          · subst c34
            have H1 : (some true) = some true := by rw [if_pos rfl] at H; first | done | exact H
            clear H
            have H := H1
            clear H1
            clear H
            try go_wp2
            have n0_ := Aside0.mk (Kd.S_drew HO_13021000.out)
            have n1_ := Aside0.mk (Kd.R_drew HO_13021001.out)
            have n2_ := Aside0.mk (blk_drew BK13001.out)
            have n3_ := Aside0.mk (blk_drew BK13020.out)
            have n4_ := Aside0.mk (below_drew1 HB.out)
            clear HO_13021000
            clear HO_13021001
            clear BK13001
            clear BK13020
            clear HB
            have HO_13021000 := n0_
            have HO_13021001 := n1_
            have BK13001 := n2_
            have BK13020 := n3_
            have HB := n4_
            clear n0_ n1_ n2_ n3_ n4_
            refine start_ (n := 5) (S := fun w' => w'.cell? ⟨gb13020, 0, none⟩ = some (.slice Ao24 t13013.length co24) ∧ w'.cell? ⟨gb13020, 1, none⟩ = some (.slice Ao27 t13016.length co27) ∧ w'.cell? ⟨gb13020, 2, none⟩ = some (.int .i64 t13019) ∧ w'.cell? ⟨gb13001, 0, none⟩ = some (.slice A0_0 l0_0.length c0_0) ∧ w'.cell? ⟨gb13001, 1, none⟩ = some (.slice A0_1 l0_1.length c0_1) ∧ w'.cell? ⟨gb13001, 2, none⟩ = some (.int .i64 a0_2)) (ds := []) #[false, false, false, false, false] (by kernel_rfl) rfl rfl ⟨(blk_cell BK13020.out 0).trans rfl, (blk_cell BK13020.out 1).trans rfl, (blk_cell BK13020.out 2).trans rfl, (blk_cell BK13001.out 0).trans rfl, (blk_cell BK13001.out 1).trans rfl, (blk_cell BK13001.out 2).trans rfl⟩ (fun hHeld => ?_)
            generalize wc.drew = w35 at HO_13021000 HO_13021001 BK13001 BK13020 HB hHeld ⊢
            refine take_ (i := 0) (N := some 48) (v := ?_) (a' := ?_) #[true, false, false, false, false] rfl rfl (by kernel_rfl) (fun _ _ _ h => h) (Or.inl ⟨by rfl, ?_⟩) hHeld ?_ ?_
            rotate_left
            · rintro w' ⟨s0, s1, s2, s3, s4, s5⟩
              go_simp
              with_reducible rfl
            rotate_left
            · simp only [Act.put, List.setIfInBounds_toArray, List.set_cons_zero, List.set_cons_succ, i64_w, i32_w]
              rfl
            refine take_ (i := 1) (N := some 49) (v := ?_) (a' := ?_) #[true, true, false, false, false] rfl rfl (by kernel_rfl) (fun _ _ _ h => h) (Or.inl ⟨by rfl, ?_⟩) hHeld ?_ ?_
            rotate_left
            · rintro w' ⟨s0, s1, s2, s3, s4, s5⟩
              go_simp
              with_reducible rfl
            rotate_left
            · simp only [Act.put, List.setIfInBounds_toArray, List.set_cons_zero, List.set_cons_succ, i64_w, i32_w]
              rfl
            refine one_ (i := 2) (N := some 50) #[true, true, true, false, false] rfl rfl (by kernel_rfl) (by decide) (fun K hK => ?_)
            refine goes_ Try.func43 (by kernel_rfl) rfl #[.agg #[.slice A0_0 l0_0.length c0_0, .slice A0_1 l0_1.length c0_1, .int .i64 a0_2]] (by rfl) rfl rfl (by (try simp only [List.map_toArray, List.map_cons, List.map_nil]); first | done | rfl | (simp only [List.length_drop, List.length_take]; rfl)) ?_
            with_reducible refine (laws_toShow.calls kj11 _ _ l0_0 _ _ l0_1 a0_2 t13024 t13027 t13030 _ ?side1 ?side2 ?side3 ?side4 A32.out).mono ?_
            (case side1 => repeat (first | exact (Kd.C_below HR0_0.out HB.out) | (with_reducible refine Kd.C_alloc ?_ _) | (with_reducible refine Kd.C_drewN ?_ _) | (with_reducible refine Kd.C_drew ?_)))
            (case side2 => exact HC0_0.out)
            (case side3 => repeat (first | exact (Kd.C_below HR0_1.out HB.out) | (with_reducible refine Kd.C_alloc ?_ _) | (with_reducible refine Kd.C_drewN ?_ _) | (with_reducible refine Kd.C_drew ?_)))
            (case side4 => exact HC0_1.out)
            rintro e w36 ⟨v13025, v13028, rfl, ho0, ho1, hb⟩
            refine ⟨_, rfl, ?_⟩
            have n0_ := Aside0.mk (Kd.S_elder' (by (with_reducible repeat (first | apply Kd.S_alloc | apply Kd.S_drewN | apply Kd.S_drew)); exact HO_13021000.out) (Kd.S_base ho0) hb)
            have n1_ := Aside0.mk (Kd.R_elder' (by (with_reducible repeat (first | apply Kd.R_alloc | apply Kd.R_drewN | apply Kd.R_drew)); exact HO_13021001.out) (Kd.R_base ho1) hb)
            have n2_ := Aside0.mk (Kd.S_lower (Kd.S_new' ho0 (Kd.S_lt (by (with_reducible repeat (first | apply Kd.S_alloc | apply Kd.S_drewN | apply Kd.S_drew)); exact HO_13021000.out))) (below_size (by repeat (first | (with_reducible first | exact HB.out | apply below_alloc | apply pw_below_drewN | apply below_drew1 | refine below_set ?_ GE13001.out | refine below_set ?_ GE13020.out) | exact HB.out))))
            have n3_ := Aside0.mk (Kd.R_lower (Kd.R_new' ho1 (Kd.R_lt (by (with_reducible repeat (first | apply Kd.R_alloc | apply Kd.R_drewN | apply Kd.R_drew)); exact HO_13021001.out))) (below_size (by repeat (first | (with_reducible first | exact HB.out | apply below_alloc | apply pw_below_drewN | apply below_drew1 | refine below_set ?_ GE13001.out | refine below_set ?_ GE13020.out) | exact HB.out))))
            have n4_ := Aside0.mk (blk_below (g := gb13001) (o := .cells #[.slice A0_0 l0_0.length c0_0, .slice A0_1 l0_1.length c0_1, .int .i64 a0_2] 60 (0, 0)) (by (with_reducible repeat (first | refine blk_drewN ?_ _ | refine blk_drew ?_ | refine blk_alloc ?_ _)); exact BK13001.out) hb)
            have n5_ := Aside0.mk (blk_below (g := gb13020) (o := .cells #[.slice Ao24 t13013.length co24, .slice Ao27 t13016.length co27, .int .i64 t13019] 66 (0, 0)) (by (with_reducible repeat (first | refine blk_drewN ?_ _ | refine blk_drew ?_ | refine blk_alloc ?_ _)); exact BK13020.out) hb)
            have n6_ := Aside0.mk (below_step (by repeat (first | (with_reducible first | exact HB.out | apply below_alloc | apply pw_below_drewN | apply below_drew1 | refine below_set ?_ GE13001.out | refine below_set ?_ GE13020.out) | exact HB.out)) hb)
            clear HO_13021000
            clear HO_13021001
            clear BK13001
            clear BK13020
            clear HB
            have HO_13021000 := n0_
            have HO_13021001 := n1_
            have HO13026 := n2_
            have HO13029 := n3_
            have BK13001 := n4_
            have BK13020 := n5_
            have HB := n6_
            clear n0_ n1_ n2_ n3_ n4_ n5_ n6_
            (try clear hb)
            (try clear hb2)
            (try clear hk)
            (try clear hi)
            (try clear ho0)
            (try clear ho1)
            obtain ⟨Ao37, co37, eo37⟩ := Kd.S_slice HO13026.out
            (first | subst eo37 | (injection eo37 with f1_ f2_ f3_; have f4_ := f1_.symm; have f5_ := f3_.symm; clear f1_ f2_ f3_; subst f4_; subst f5_))
            obtain ⟨Ao38, co38, eo38⟩ := Kd.R_slice HO13029.out
            (first | subst eo38 | (injection eo38 with f1_ f2_ f3_; have f4_ := f1_.symm; have f5_ := f3_.symm; clear f1_ f2_ f3_; subst f4_; subst f5_))
            refine hK.out _ _ ⟨(blk_cell BK13020.out 0).trans rfl, (blk_cell BK13020.out 1).trans rfl, (blk_cell BK13020.out 2).trans rfl, (blk_cell BK13001.out 0).trans rfl, (blk_cell BK13001.out 1).trans rfl, (blk_cell BK13001.out 2).trans rfl⟩ (fun hHeld => ?_)
            clear hK K
            refine norm_ (a' := ?_) ?_ ?_
            rotate_left
            · show Act.put _ (some 50) _ = _
              simp only [Act.put, List.setIfInBounds_toArray, List.set_cons_zero, List.set_cons_succ, i64_w, i32_w]
              rfl
            refine one_ (i := 3) (N := some 51) #[true, true, true, true, false] rfl rfl (by kernel_rfl) (by decide) (fun K hK => ?_)
            refine goes_ Try.func45 (by kernel_rfl) rfl #[.agg #[.slice Ao24 t13013.length co24, .slice Ao27 t13016.length co27, .int .i64 t13019], .agg #[.slice Ao37 t13024.length co37, .slice Ao38 t13027.length co38, .int .i64 t13030]] (by rfl) rfl rfl (by (try simp only [List.map_toArray, List.map_cons, List.map_nil]); first | done | rfl | (simp only [List.length_drop, List.length_take]; rfl)) ?_
            with_reducible refine (laws_eqShow.calls kj11 _ _ t13013 _ _ t13016 t13019 _ _ t13024 _ _ t13027 t13030 true _ ?side1 ?side2 ?side3 ?side4 ?side5 ?side6 ?side7 ?side8 A33.out).mono ?_
            (case side1 => repeat (first | exact (Kd.S_reads' HO_13021000.out).2.2 | (with_reducible refine Kd.C_alloc ?_ _) | (with_reducible refine Kd.C_drewN ?_ _) | (with_reducible refine Kd.C_drew ?_)))
            (case side2 => exact (Kd.S_reads' HO_13021000.out).2.1)
            (case side3 => repeat (first | exact (Kd.R_reads' HO_13021001.out).2.2 | (with_reducible refine Kd.C_alloc ?_ _) | (with_reducible refine Kd.C_drewN ?_ _) | (with_reducible refine Kd.C_drew ?_)))
            (case side4 => exact (Kd.R_reads' HO_13021001.out).2.1)
            (case side5 => repeat (first | exact (Kd.S_reads' HO13026.out).2.2 | (with_reducible refine Kd.C_alloc ?_ _) | (with_reducible refine Kd.C_drewN ?_ _) | (with_reducible refine Kd.C_drew ?_)))
            (case side6 => exact (Kd.S_reads' HO13026.out).2.1)
            (case side7 => repeat (first | exact (Kd.R_reads' HO13029.out).2.2 | (with_reducible refine Kd.C_alloc ?_ _) | (with_reducible refine Kd.C_drewN ?_ _) | (with_reducible refine Kd.C_drew ?_)))
            (case side8 => exact (Kd.R_reads' HO13029.out).2.1)
            rintro e w39 ⟨rfl, hb⟩
            refine ⟨_, rfl, ?_⟩
            have n0_ := Aside0.mk (Kd.S_below (by (with_reducible repeat (first | apply Kd.S_alloc | apply Kd.S_drewN | apply Kd.S_drew)); exact HO_13021000.out) hb)
            have n1_ := Aside0.mk (Kd.R_below (by (with_reducible repeat (first | apply Kd.R_alloc | apply Kd.R_drewN | apply Kd.R_drew)); exact HO_13021001.out) hb)
            have n2_ := Aside0.mk (Kd.S_below (by (with_reducible repeat (first | apply Kd.S_alloc | apply Kd.S_drewN | apply Kd.S_drew)); exact HO13026.out) hb)
            have n3_ := Aside0.mk (Kd.R_below (by (with_reducible repeat (first | apply Kd.R_alloc | apply Kd.R_drewN | apply Kd.R_drew)); exact HO13029.out) hb)
            have n4_ := Aside0.mk (blk_below (g := gb13001) (o := .cells #[.slice A0_0 l0_0.length c0_0, .slice A0_1 l0_1.length c0_1, .int .i64 a0_2] 60 (0, 0)) (by (with_reducible repeat (first | refine blk_drewN ?_ _ | refine blk_drew ?_ | refine blk_alloc ?_ _)); exact BK13001.out) hb)
            have n5_ := Aside0.mk (blk_below (g := gb13020) (o := .cells #[.slice Ao24 t13013.length co24, .slice Ao27 t13016.length co27, .int .i64 t13019] 66 (0, 0)) (by (with_reducible repeat (first | refine blk_drewN ?_ _ | refine blk_drew ?_ | refine blk_alloc ?_ _)); exact BK13020.out) hb)
            have n6_ := Aside0.mk (below_step (by repeat (first | (with_reducible first | exact HB.out | apply below_alloc | apply pw_below_drewN | apply below_drew1 | refine below_set ?_ GE13001.out | refine below_set ?_ GE13020.out) | exact HB.out)) hb)
            clear HO_13021000
            clear HO_13021001
            clear HO13026
            clear HO13029
            clear BK13001
            clear BK13020
            clear HB
            have HO_13021000 := n0_
            have HO_13021001 := n1_
            have HO13026 := n2_
            have HO13029 := n3_
            have BK13001 := n4_
            have BK13020 := n5_
            have HB := n6_
            clear n0_ n1_ n2_ n3_ n4_ n5_ n6_
            (try clear hb)
            (try clear hb2)
            (try clear hk)
            (try clear hi)
            refine hK.out _ _ ⟨(blk_cell BK13020.out 0).trans rfl, (blk_cell BK13020.out 1).trans rfl, (blk_cell BK13020.out 2).trans rfl, (blk_cell BK13001.out 0).trans rfl, (blk_cell BK13001.out 1).trans rfl, (blk_cell BK13001.out 2).trans rfl⟩ (fun hHeld => ?_)
            clear hK K
            refine norm_ (a' := ?_) ?_ ?_
            rotate_left
            · show Act.put _ (some 51) _ = _
              simp only [Act.put, List.setIfInBounds_toArray, List.set_cons_zero, List.set_cons_succ, i64_w, i32_w]
              rfl
            refine pure_ (i := 4) (N := some 52) (v := ?_) (a' := ?_) #[true, true, true, true, true] rfl rfl (by kernel_rfl) (fun _ _ _ h => h) (Or.inl ⟨by rfl, ?_⟩) ?_ ?_
            rotate_left
            · intro w'
              go_simp
              with_reducible rfl
            rotate_left
            · simp only [Act.put, List.setIfInBounds_toArray, List.set_cons_zero, List.set_cons_succ, i64_w, i32_w]
              rfl
            refine done_ (by kernel_rfl) ?_
            try go_wp2
            go_ret
            exact ⟨by first | rfl | (simp [errW_none, errW_some] <;> rfl) | (simp [*, errW_none, errW_some] <;> rfl), by repeat (first | (with_reducible first | exact HB.out | apply below_alloc | apply pw_below_drewN | apply below_drew1 | refine below_set ?_ GE13001.out | refine below_set ?_ GE13020.out) | exact HB.out)⟩
          · replace c34 := Bool.eq_false_iff.mpr c34
            subst c34
            exact absurd H (by simp)

end Go.Proofs.Ytpoffpdaadhkgaa.Pr

namespace Go.Proofs.Ytpoffpdaadhkgaa.Pr
open Go.RowKit Go.Proofs.YtpoffpdaadhkgaaW.PrintWords Go.Proofs.YtpoffpdaadhkgaaW.PrintLast Go.Proofs.YtpoffpdaadhkgaaW.PrintMore
attribute [local go_sem] max2_int min2_int max_two min_two max_three min_three max_four min_four
set_option linter.unusedVariables false
set_option linter.unusedSimpArgs false

def laws_FnExactBaseOf.Pure : Prop := ∀ (y0 : S60) (y1 : Int), okS60 y0 → (fun n_ : Int => (Lit.int .i64 n_).wf = true) y1 → ∃ k, laws_FnExactBaseOf.f k y0.f0 y0.f1 y0.f2 y1 = some true
end Go.Proofs.Ytpoffpdaadhkgaa.Pr

namespace Go.Proofs.Ytpoffpdaadhkgaa.Pure
open Go.RowKit Go.Proofs.Ytpoffpdaadhkgaa.Pr Go.Proofs.Ytpoffpdaadhkgaa.Ni Go.Proofs.YtpoffpdaadhkgaaW.PrintWords Go.Proofs.YtpoffpdaadhkgaaW.PrintMore
theorem FnExactBaseOf : laws_FnExactBaseOf.Pure := by
  rintro ⟨ns, ts, z⟩ a ⟨⟨hn, hb⟩, ⟨ht, _⟩, _⟩ _
  simp only [maxLen] at hn ht
  refine ⟨2 ^ 70 + 1, ?_⟩
  unfold laws_FnExactBaseOf.f
  obtain ⟨r, hr, h⟩ := szShow_f ns ts z hn (fun n hn => by have := hb n hn; exact ⟨by simpa [maxLen] using this.1, by simpa [maxLen] using this.2.1.1⟩) ht (2 ^ 70 + 1) (by omega) 1048576 (by omega) (by omega)
  rw [hr, Option.bind_some]
  rcases h with h | ⟨_, _, h⟩
  · rw [if_pos h]
  rw [if_neg (by omega)]
  have hc := h.cv
  obtain ⟨⟨b, lo, hi⟩, h1, h2⟩ := BaseOf_same (z := z) hc a (2 ^ 70 + 1) (by omega)
  simp only [toShow_f ns ts z h (2 ^ 70 + 1) (by omega), h1, h2, Option.bind_some, if_true, bne_self_eq_false]
  simp only [laws_FnExactBaseOf.j0, Bool.false_eq_true, if_false, toShow_f ns ts z h (2 ^ 70) (by omega), eqShow_refl _ _ _ hc (2 ^ 70) (by omega), Option.bind_some, if_true]
end Go.Proofs.Ytpoffpdaadhkgaa.Pure

