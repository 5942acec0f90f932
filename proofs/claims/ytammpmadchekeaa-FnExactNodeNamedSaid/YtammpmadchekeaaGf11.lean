/- What a call of each function below returns, over this translation; the conditions stand in each theorem. Laid by a program of this session. -/
import Derived.Test.YtammpmadchekeaaG0
import Derived.Test.YtammpmadchekeaaGf40
import Derived.Test.YtammpmadchekeaaGf41
import Derived.Test.YtammpmadchekeaaGf42
import Derived.Test.YtammpmadchekeaaGf43
import Derived.Test.YtammpmadchekeaaGf44
namespace Go.Proofs.Ytammpmadchekeaa.Pr
open Go.RowKit Go.Proofs.YtammpmadchekeaaW.PrintWords Go.Proofs.YtammpmadchekeaaW.PrintLast Go.Proofs.YtammpmadchekeaaW.PrintMore
attribute [local go_sem] max2_int min2_int max_two min_two max_three min_three max_four min_four
set_option linter.unusedVariables false
set_option linter.unusedSimpArgs false

/-! ### laws_FnExactNodeNamed: function 11 -/
def laws_FnExactNodeNamed.f (k : Nat) (l0_0 : List (S39)) (l0_1 : List (S84)) (a0_2 : Int) (a1 : ByteArray) : Option (Bool) := if (a1.size : Int) > 1048576 then (some true) else ((laws_szShow.f k l0_0 l0_1 a0_2 1048576).bind fun t11002 => (if t11002 < 0 then (some true) else ((laws_toShow.f k l0_0 l0_1 a0_2).bind fun bt11003 => ((spec_NodeNamed.f k bt11003.1 bt11003.2.1 bt11003.2.2 a1).bind fun t11010 => ((laws_toShow.f k l0_0 l0_1 a0_2).bind fun bt11011 => ((impl_NodeNamed.f bt11011.1 bt11011.2.1 bt11011.2.2 a1).bind fun t11019 => (if t11019 = t11010 then ((laws_toShow.f k l0_0 l0_1 a0_2).bind fun bt11020 => ((laws_eqShow.f k bt11011.1 bt11011.2.1 bt11011.2.2 bt11020.1 bt11020.2.1 bt11020.2.2).bind fun t11027 => (if t11027 = true then (some true) else (some false)))) else (some false))))))))
set_option maxHeartbeats 8000000 in
set_option maxRecDepth 100000 in
theorem laws_FnExactNodeNamed.calls (k : Nat) (A0_0 : Option Addr) (c0_0 : Nat) (l0_0 : List (S39)) (A0_1 : Option Addr) (c0_1 : Nat) (l0_1 : List (S84)) (a0_2 : Int) (a1 : ByteArray) (w : World) (hr0_0 : Kd.C k39 w A0_0 l0_0.length l0_0) (hc0_0 : l0_0.length ≤ c0_0) (hr0_1 : Kd.C k84 w A0_1 l0_1.length l0_1) (hc0_1 : l0_1.length ≤ c0_1) (h : laws_FnExactNodeNamed.f k l0_0 l0_1 a0_2 a1 = some true) :
    Calls Try.prog 11 #[.agg #[.slice A0_0 l0_0.length c0_0, .slice A0_1 l0_1.length c0_1, .int .i64 a0_2], .string a1] w fun e w' => e = .returned (.bool true) ∧ Below w.heap.size w w' := by
  have hu49 := Try.underlying49
  have hu55 := Try.underlying55
  have HR0_0 := Aside0.mk hr0_0
  have HC0_0 := Aside0.mk hc0_0
  clear hr0_0 hc0_0
  have HR0_1 := Aside0.mk hr0_1
  have HC0_1 := Aside0.mk hc0_1
  clear hr0_1 hc0_1
  have HB := Aside0.mk (Below.refl w.heap.size w)
  have H : (if (a1.size : Int) > 1048576 then (some true) else ((laws_szShow.f k l0_0 l0_1 a0_2 1048576).bind fun t11002 => (if t11002 < 0 then (some true) else ((laws_toShow.f k l0_0 l0_1 a0_2).bind fun bt11003 => ((spec_NodeNamed.f k bt11003.1 bt11003.2.1 bt11003.2.2 a1).bind fun t11010 => ((laws_toShow.f k l0_0 l0_1 a0_2).bind fun bt11011 => ((impl_NodeNamed.f bt11011.1 bt11011.2.1 bt11011.2.2 a1).bind fun t11019 => (if t11019 = t11010 then ((laws_toShow.f k l0_0 l0_1 a0_2).bind fun bt11020 => ((laws_eqShow.f k bt11011.1 bt11011.2.1 bt11011.2.2 bt11020.1 bt11020.2.1 bt11020.2.2).bind fun t11027 => (if t11027 = true then (some true) else (some false)))) else (some false))))))))) = some true := h
  clear h
  by_cases c3 : (a1.size : Int) > 1048576
  · rw [if_pos c3] at H
    have c3b0 : decide (1048576 < (a1.size : Int)) = true := decide_eq_true c3
    have c3b1 : decide (1048576 < a1.size) = true := decide_eq_true (by omega)
    clear c3
    clear H
    go_enter Try.func11, Try.ntmps11
    go_wp2_with (first | ((with_reducible refine gate_dst (N := 2) rfl ?_); refine box_event ?hg (N := 2) ?hd (cs := #[.slice A0_0 l0_0.length c0_0, .slice A0_1 l0_1.length c0_1, .int .i64 a0_2]) (t := 49) ?hr ?_; (case hd => rfl); (case hg => rfl); (case hr => first | (go_simp; done) | (go_simp; rfl)); intro gb11001 hg w4 hbox hb; have n0_ := Aside0.mk (below_step (by repeat (first | (with_reducible first | exact HB.out | apply below_alloc | apply pw_below_drewN | apply below_drew1) | exact HB.out)) hb); have n1_ := Aside0.mk (hbox); have n2_ := Aside0.mk ((by rw [hg]; exact (below_size (by repeat (first | (with_reducible first | exact HB.out | apply below_alloc | apply pw_below_drewN | apply below_drew1) | exact HB.out))) : w.heap.size ≤ gb11001)); have n3_ := Aside0.mk ((by rw [hg]; exact (below_size (by repeat (first | (with_reducible first | exact HB.out | apply below_alloc | apply pw_below_drewN | apply below_drew1) | exact HB.out))) : w.heap.size ≤ gb11001)); clear HB; have HB := n0_; have BK11001 := n1_; have GW11001 := n2_; have GE11001 := n3_; clear n0_ n1_ n2_ n3_; clear hb hbox hg))
    go_ret
    exact ⟨by first | rfl | (simp [errW_none, errW_some] <;> rfl) | (simp [*, errW_none, errW_some] <;> rfl), by repeat (first | (with_reducible first | exact HB.out | apply below_alloc | apply pw_below_drewN | apply below_drew1 | refine below_set ?_ GE11001.out) | exact HB.out)⟩
  · rw [if_neg c3] at H
    have c3b0 : decide (1048576 < (a1.size : Int)) = false := decide_eq_false c3
    have c3b1 : decide (1048576 < a1.size) = false := decide_eq_false (by omega)
    clear c3
    replace H := Option.bind_eq_some_iff.mp H
    obtain ⟨t11002, A50, H⟩ := H
    replace H : (if t11002 < 0 then (some true) else ((laws_toShow.f k l0_0 l0_1 a0_2).bind fun bt11003 => ((spec_NodeNamed.f k bt11003.1 bt11003.2.1 bt11003.2.2 a1).bind fun t11010 => ((laws_toShow.f k l0_0 l0_1 a0_2).bind fun bt11011 => ((impl_NodeNamed.f bt11011.1 bt11011.2.1 bt11011.2.2 a1).bind fun t11019 => (if t11019 = t11010 then ((laws_toShow.f k l0_0 l0_1 a0_2).bind fun bt11020 => ((laws_eqShow.f k bt11011.1 bt11011.2.1 bt11011.2.2 bt11020.1 bt11020.2.1 bt11020.2.2).bind fun t11027 => (if t11027 = true then (some true) else (some false)))) else (some false))))))) = some true := H
    have A5 := Aside0.mk A50
    clear A50
    by_cases c6 : t11002 < 0
    · rw [if_pos c6] at H
      have c6b0 : decide (t11002 < 0) = true := decide_eq_true c6
      clear c6
      clear H
      go_enter Try.func11, Try.ntmps11
      go_wp2_with (first | ((with_reducible refine gate_dst (N := 2) rfl ?_); refine box_event ?hg (N := 2) ?hd (cs := #[.slice A0_0 l0_0.length c0_0, .slice A0_1 l0_1.length c0_1, .int .i64 a0_2]) (t := 49) ?hr ?_; (case hd => rfl); (case hg => rfl); (case hr => first | (go_simp; done) | (go_simp; rfl)); intro gb11001 hg w7 hbox hb; have n0_ := Aside0.mk (below_step (by repeat (first | (with_reducible first | exact HB.out | apply below_alloc | apply pw_below_drewN | apply below_drew1) | exact HB.out)) hb); have n1_ := Aside0.mk (hbox); have n2_ := Aside0.mk ((by rw [hg]; exact (below_size (by repeat (first | (with_reducible first | exact HB.out | apply below_alloc | apply pw_below_drewN | apply below_drew1) | exact HB.out))) : w.heap.size ≤ gb11001)); have n3_ := Aside0.mk ((by rw [hg]; exact (below_size (by repeat (first | (with_reducible first | exact HB.out | apply below_alloc | apply pw_below_drewN | apply below_drew1) | exact HB.out))) : w.heap.size ≤ gb11001)); clear HB; have HB := n0_; have BK11001 := n1_; have GW11001 := n2_; have GE11001 := n3_; clear n0_ n1_ n2_ n3_; clear hb hbox hg; have hcz8_0 : w7.cell? ⟨gb11001, 0, none⟩ = some (.slice A0_0 l0_0.length c0_0) := (blk_cell BK11001.out 0).trans rfl; have hcz8_1 : w7.cell? ⟨gb11001, 1, none⟩ = some (.slice A0_1 l0_1.length c0_1) := (blk_cell BK11001.out 1).trans rfl; have hcz8_2 : w7.cell? ⟨gb11001, 2, none⟩ = some (.int .i64 a0_2) := (blk_cell BK11001.out 2).trans rfl; have hfz8_0 := blk_frozen BK11001.out 0; have hfz8_1 := blk_frozen BK11001.out 1; have hfz8_2 := blk_frozen BK11001.out 2) | ((with_reducible refine gate_callee (f := 40) rfl ?_); refine goesL_ (some 14) rfl rfl Try.func40 (by kernel_rfl) rfl #[.agg #[.slice A0_0 l0_0.length c0_0, .slice A0_1 l0_1.length c0_1, .int .i64 a0_2], .int .i64 1048576] rfl (by (try simp only [List.map_toArray, List.map_cons, List.map_nil]); first | done | rfl | (simp only [List.length_drop, List.length_take]; rfl)) ?_; (with_reducible refine (laws_szShow.calls k _ _ l0_0 _ _ l0_1 a0_2 1048576 t11002 _ ?side1 ?side2 ?side3 ?side4 A5.out).mono ?_); (case side1 => repeat (first | exact (Kd.C_below HR0_0.out HB.out) | (with_reducible refine Kd.C_alloc ?_ _) | (with_reducible refine Kd.C_drewN ?_ _) | (with_reducible refine Kd.C_drew ?_))); (case side2 => exact HC0_0.out); (case side3 => repeat (first | exact (Kd.C_below HR0_1.out HB.out) | (with_reducible refine Kd.C_alloc ?_ _) | (with_reducible refine Kd.C_drewN ?_ _) | (with_reducible refine Kd.C_drew ?_))); (case side4 => exact HC0_1.out); rintro e w9 ⟨rfl, hb⟩; refine ⟨_, rfl, ?_⟩; have n0_ := Aside0.mk (blk_below (g := gb11001) (o := .cells #[.slice A0_0 l0_0.length c0_0, .slice A0_1 l0_1.length c0_1, .int .i64 a0_2] 49 (0, 0)) (by (with_reducible repeat (first | refine blk_drewN ?_ _ | refine blk_drew ?_ | refine blk_alloc ?_ _)); exact BK11001.out) hb); have n1_ := Aside0.mk (below_step (by repeat (first | (with_reducible first | exact HB.out | apply below_alloc | apply pw_below_drewN | apply below_drew1 | refine below_set ?_ GE11001.out) | exact HB.out)) hb); clear BK11001; clear HB; have BK11001 := n0_; have HB := n1_; clear n0_ n1_; (try clear hb); (try clear hb2); (try clear hk); (try clear hi)))
      go_ret
      exact ⟨by first | rfl | (simp [errW_none, errW_some] <;> rfl) | (simp [*, errW_none, errW_some] <;> rfl), by repeat (first | (with_reducible first | exact HB.out | apply below_alloc | apply pw_below_drewN | apply below_drew1 | refine below_set ?_ GE11001.out) | exact HB.out)⟩
    · rw [if_neg c6] at H
      have c6b0 : decide (t11002 < 0) = false := decide_eq_false c6
      clear c6
      replace H := Option.bind_eq_some_iff.mp H
      obtain ⟨⟨t11003, t11006, t11009⟩, A100, H⟩ := H
      replace H : ((spec_NodeNamed.f k t11003 t11006 t11009 a1).bind fun t11010 => ((laws_toShow.f k l0_0 l0_1 a0_2).bind fun bt11011 => ((impl_NodeNamed.f bt11011.1 bt11011.2.1 bt11011.2.2 a1).bind fun t11019 => (if t11019 = t11010 then ((laws_toShow.f k l0_0 l0_1 a0_2).bind fun bt11020 => ((laws_eqShow.f k bt11011.1 bt11011.2.1 bt11011.2.2 bt11020.1 bt11020.2.1 bt11020.2.2).bind fun t11027 => (if t11027 = true then (some true) else (some false)))) else (some false))))) = some true := H
      have A10 := Aside0.mk A100
      clear A100
      replace H := Option.bind_eq_some_iff.mp H
      obtain ⟨t11010, A110, H⟩ := H
      replace H : ((laws_toShow.f k l0_0 l0_1 a0_2).bind fun bt11011 => ((impl_NodeNamed.f bt11011.1 bt11011.2.1 bt11011.2.2 a1).bind fun t11019 => (if t11019 = t11010 then ((laws_toShow.f k l0_0 l0_1 a0_2).bind fun bt11020 => ((laws_eqShow.f k bt11011.1 bt11011.2.1 bt11011.2.2 bt11020.1 bt11020.2.1 bt11020.2.2).bind fun t11027 => (if t11027 = true then (some true) else (some false)))) else (some false)))) = some true := H
      have A11 := Aside0.mk A110
      clear A110
      replace H := Option.bind_eq_some_iff.mp H
      obtain ⟨⟨t11011, t11014, t11017⟩, A120, H⟩ := H
      replace H : ((impl_NodeNamed.f t11011 t11014 t11017 a1).bind fun t11019 => (if t11019 = t11010 then ((laws_toShow.f k l0_0 l0_1 a0_2).bind fun bt11020 => ((laws_eqShow.f k t11011 t11014 t11017 bt11020.1 bt11020.2.1 bt11020.2.2).bind fun t11027 => (if t11027 = true then (some true) else (some false)))) else (some false))) = some true := H
      have A12 := Aside0.mk A120
      clear A120
      replace H := Option.bind_eq_some_iff.mp H
      obtain ⟨t11019, A130, H⟩ := H
      replace H : (if t11019 = t11010 then ((laws_toShow.f k l0_0 l0_1 a0_2).bind fun bt11020 => ((laws_eqShow.f k t11011 t11014 t11017 bt11020.1 bt11020.2.1 bt11020.2.2).bind fun t11027 => (if t11027 = true then (some true) else (some false)))) else (some false)) = some true := H
      have A13 := Aside0.mk A130
      clear A130
      by_cases c14 : t11019 = t11010
      · rw [if_pos c14] at H
        have c14b0 : (t11019 == t11010) = true := beq_iff_eq.mpr c14
        have c14b1 : (t11019 != t11010) = false := bne_eq_false_iff_eq.mpr c14
        clear c14
        replace H := Option.bind_eq_some_iff.mp H
        obtain ⟨⟨t11020, t11023, t11026⟩, A150, H⟩ := H
        replace H : ((laws_eqShow.f k t11011 t11014 t11017 t11020 t11023 t11026).bind fun t11027 => (if t11027 = true then (some true) else (some false))) = some true := H
        have A15 := Aside0.mk A150
        clear A150
        replace H := Option.bind_eq_some_iff.mp H
        obtain ⟨t11027, A160, H⟩ := H
        replace H : (if t11027 = true then (some true) else (some false)) = some true := H
        have A16 := Aside0.mk A160
        clear A160
        by_cases c17 : t11027 = true
        · subst c17
          have H1 : (some true) = some true := by rw [if_pos rfl] at H; first | done | exact H
          clear H
          have H := H1
          clear H1
          clear H
          go_enter Try.func11, Try.ntmps11
          try go_wp2_with (first | ((with_reducible refine gate_dst (N := 2) rfl ?_); refine box_event ?hg (N := 2) ?hd (cs := #[.slice A0_0 l0_0.length c0_0, .slice A0_1 l0_1.length c0_1, .int .i64 a0_2]) (t := 49) ?hr ?_; (case hd => rfl); (case hg => rfl); (case hr => first | (go_simp; done) | (go_simp; rfl)); intro gb11001 hg w18 hbox hb; have n0_ := Aside0.mk (below_step (by repeat (first | (with_reducible first | exact HB.out | apply below_alloc | apply pw_below_drewN | apply below_drew1) | exact HB.out)) hb); have n1_ := Aside0.mk (hbox); have n2_ := Aside0.mk ((by rw [hg]; exact (below_size (by repeat (first | (with_reducible first | exact HB.out | apply below_alloc | apply pw_below_drewN | apply below_drew1) | exact HB.out))) : w.heap.size ≤ gb11001)); have n3_ := Aside0.mk ((by rw [hg]; exact (below_size (by repeat (first | (with_reducible first | exact HB.out | apply below_alloc | apply pw_below_drewN | apply below_drew1) | exact HB.out))) : w.heap.size ≤ gb11001)); clear HB; have HB := n0_; have BK11001 := n1_; have GW11001 := n2_; have GE11001 := n3_; clear n0_ n1_ n2_ n3_; clear hb hbox hg; have hcz19_0 : w18.cell? ⟨gb11001, 0, none⟩ = some (.slice A0_0 l0_0.length c0_0) := (blk_cell BK11001.out 0).trans rfl; have hcz19_1 : w18.cell? ⟨gb11001, 1, none⟩ = some (.slice A0_1 l0_1.length c0_1) := (blk_cell BK11001.out 1).trans rfl; have hcz19_2 : w18.cell? ⟨gb11001, 2, none⟩ = some (.int .i64 a0_2) := (blk_cell BK11001.out 2).trans rfl; have hfz19_0 := blk_frozen BK11001.out 0; have hfz19_1 := blk_frozen BK11001.out 1; have hfz19_2 := blk_frozen BK11001.out 2) | ((with_reducible refine gate_callee (f := 40) rfl ?_); refine goesL_ (some 14) rfl rfl Try.func40 (by kernel_rfl) rfl #[.agg #[.slice A0_0 l0_0.length c0_0, .slice A0_1 l0_1.length c0_1, .int .i64 a0_2], .int .i64 1048576] rfl (by (try simp only [List.map_toArray, List.map_cons, List.map_nil]); first | done | rfl | (simp only [List.length_drop, List.length_take]; rfl)) ?_; (with_reducible refine (laws_szShow.calls k _ _ l0_0 _ _ l0_1 a0_2 1048576 t11002 _ ?side1 ?side2 ?side3 ?side4 A5.out).mono ?_); (case side1 => repeat (first | exact (Kd.C_below HR0_0.out HB.out) | (with_reducible refine Kd.C_alloc ?_ _) | (with_reducible refine Kd.C_drewN ?_ _) | (with_reducible refine Kd.C_drew ?_))); (case side2 => exact HC0_0.out); (case side3 => repeat (first | exact (Kd.C_below HR0_1.out HB.out) | (with_reducible refine Kd.C_alloc ?_ _) | (with_reducible refine Kd.C_drewN ?_ _) | (with_reducible refine Kd.C_drew ?_))); (case side4 => exact HC0_1.out); rintro e w20 ⟨rfl, hb⟩; refine ⟨_, rfl, ?_⟩; have n0_ := Aside0.mk (blk_below (g := gb11001) (o := .cells #[.slice A0_0 l0_0.length c0_0, .slice A0_1 l0_1.length c0_1, .int .i64 a0_2] 49 (0, 0)) (by (with_reducible repeat (first | refine blk_drewN ?_ _ | refine blk_drew ?_ | refine blk_alloc ?_ _)); exact BK11001.out) hb); have n1_ := Aside0.mk (below_step (by repeat (first | (with_reducible first | exact HB.out | apply below_alloc | apply pw_below_drewN | apply below_drew1 | refine below_set ?_ GE11001.out) | exact HB.out)) hb); clear BK11001; clear HB; have BK11001 := n0_; have HB := n1_; clear n0_ n1_; (try clear hb); (try clear hb2); (try clear hk); (try clear hi); have hcz21_0 : w20.cell? ⟨gb11001, 0, none⟩ = some (.slice A0_0 l0_0.length c0_0) := (blk_cell BK11001.out 0).trans rfl; have hcz21_1 : w20.cell? ⟨gb11001, 1, none⟩ = some (.slice A0_1 l0_1.length c0_1) := (blk_cell BK11001.out 1).trans rfl; have hcz21_2 : w20.cell? ⟨gb11001, 2, none⟩ = some (.int .i64 a0_2) := (blk_cell BK11001.out 2).trans rfl; have hfz21_0 := blk_frozen BK11001.out 0; have hfz21_1 := blk_frozen BK11001.out 1; have hfz21_2 := blk_frozen BK11001.out 2) | ((with_reducible refine gate_callee (f := 42) rfl ?_); refine goesL_ (some 18) rfl rfl Try.func42 (by kernel_rfl) rfl #[.agg #[.slice A0_0 l0_0.length c0_0, .slice A0_1 l0_1.length c0_1, .int .i64 a0_2]] rfl (by (try simp only [List.map_toArray, List.map_cons, List.map_nil]); first | done | rfl | (simp only [List.length_drop, List.length_take]; rfl)) ?_; (with_reducible refine (laws_toShow.calls k _ _ l0_0 _ _ l0_1 a0_2 t11003 t11006 t11009 _ ?side1 ?side2 ?side3 ?side4 A10.out).mono ?_); (case side1 => repeat (first | exact (Kd.C_below HR0_0.out HB.out) | (with_reducible refine Kd.C_alloc ?_ _) | (with_reducible refine Kd.C_drewN ?_ _) | (with_reducible refine Kd.C_drew ?_))); (case side2 => exact HC0_0.out); (case side3 => repeat (first | exact (Kd.C_below HR0_1.out HB.out) | (with_reducible refine Kd.C_alloc ?_ _) | (with_reducible refine Kd.C_drewN ?_ _) | (with_reducible refine Kd.C_drew ?_))); (case side4 => exact HC0_1.out); rintro e w22 ⟨v11004, v11007, rfl, ho0, ho1, hb⟩; refine ⟨_, rfl, ?_⟩; have n0_ := Aside0.mk (Kd.S_lower ho0 (below_size (by repeat (first | (with_reducible first | exact HB.out | apply below_alloc | apply pw_below_drewN | apply below_drew1 | refine below_set ?_ GE11001.out) | exact HB.out)))); have n1_ := Aside0.mk (Kd.R_lower ho1 (below_size (by repeat (first | (with_reducible first | exact HB.out | apply below_alloc | apply pw_below_drewN | apply below_drew1 | refine below_set ?_ GE11001.out) | exact HB.out)))); have n2_ := Aside0.mk (blk_below (g := gb11001) (o := .cells #[.slice A0_0 l0_0.length c0_0, .slice A0_1 l0_1.length c0_1, .int .i64 a0_2] 49 (0, 0)) (by (with_reducible repeat (first | refine blk_drewN ?_ _ | refine blk_drew ?_ | refine blk_alloc ?_ _)); exact BK11001.out) hb); have n3_ := Aside0.mk (below_step (by repeat (first | (with_reducible first | exact HB.out | apply below_alloc | apply pw_below_drewN | apply below_drew1 | refine below_set ?_ GE11001.out) | exact HB.out)) hb); clear BK11001; clear HB; have HO11005 := n0_; have HO11008 := n1_; have BK11001 := n2_; have HB := n3_; clear n0_ n1_ n2_ n3_; (try clear hb); (try clear hb2); (try clear hk); (try clear hi); (try clear ho0); (try clear ho1); obtain ⟨Ao23, co23, eo23⟩ := Kd.S_slice HO11005.out; subst eo23; obtain ⟨Ao24, co24, eo24⟩ := Kd.R_slice HO11008.out; subst eo24) | ((with_reducible refine gate_callee (f := 41) rfl ?_); refine goesL_ (some 20) rfl rfl Try.func41 (by kernel_rfl) rfl #[.agg #[.slice Ao23 t11003.length co23, .slice Ao24 t11006.length co24, .int .i64 t11009], .string a1] rfl (by (try simp only [List.map_toArray, List.map_cons, List.map_nil]); first | done | rfl | (simp only [List.length_drop, List.length_take]; rfl)) ?_; (with_reducible refine (spec_NodeNamed.calls k _ _ t11003 _ _ t11006 t11009 a1 t11010 _ ?side1 ?side2 ?side3 ?side4 A11.out).mono ?_); (case side1 => repeat (first | exact (Kd.S_reads' HO11005.out).2.2 | (with_reducible refine Kd.C_alloc ?_ _) | (with_reducible refine Kd.C_drewN ?_ _) | (with_reducible refine Kd.C_drew ?_))); (case side2 => exact (Kd.S_reads' HO11005.out).2.1); (case side3 => repeat (first | exact (Kd.R_reads' HO11008.out).2.2 | (with_reducible refine Kd.C_alloc ?_ _) | (with_reducible refine Kd.C_drewN ?_ _) | (with_reducible refine Kd.C_drew ?_))); (case side4 => exact (Kd.R_reads' HO11008.out).2.1); rintro e w25 ⟨rfl, hb⟩; refine ⟨_, rfl, ?_⟩; have n0_ := Aside0.mk (Kd.S_below (by (with_reducible repeat (first | apply Kd.S_alloc | apply Kd.S_drewN | apply Kd.S_drew)); exact HO11005.out) hb); have n1_ := Aside0.mk (Kd.R_below (by (with_reducible repeat (first | apply Kd.R_alloc | apply Kd.R_drewN | apply Kd.R_drew)); exact HO11008.out) hb); have n2_ := Aside0.mk (blk_below (g := gb11001) (o := .cells #[.slice A0_0 l0_0.length c0_0, .slice A0_1 l0_1.length c0_1, .int .i64 a0_2] 49 (0, 0)) (by (with_reducible repeat (first | refine blk_drewN ?_ _ | refine blk_drew ?_ | refine blk_alloc ?_ _)); exact BK11001.out) hb); have n3_ := Aside0.mk (below_step (by repeat (first | (with_reducible first | exact HB.out | apply below_alloc | apply pw_below_drewN | apply below_drew1 | refine below_set ?_ GE11001.out) | exact HB.out)) hb); clear HO11005; clear HO11008; clear BK11001; clear HB; have HO11005 := n0_; have HO11008 := n1_; have BK11001 := n2_; have HB := n3_; clear n0_ n1_ n2_ n3_; (try clear hb); (try clear hb2); (try clear hk); (try clear hi); have hcz26_0 : w25.cell? ⟨gb11001, 0, none⟩ = some (.slice A0_0 l0_0.length c0_0) := (blk_cell BK11001.out 0).trans rfl; have hcz26_1 : w25.cell? ⟨gb11001, 1, none⟩ = some (.slice A0_1 l0_1.length c0_1) := (blk_cell BK11001.out 1).trans rfl; have hcz26_2 : w25.cell? ⟨gb11001, 2, none⟩ = some (.int .i64 a0_2) := (blk_cell BK11001.out 2).trans rfl; have hfz26_0 := blk_frozen BK11001.out 0; have hfz26_1 := blk_frozen BK11001.out 1; have hfz26_2 := blk_frozen BK11001.out 2) | ((with_reducible refine gate_callee (f := 42) rfl ?_); refine goesL_ (some 22) rfl rfl Try.func42 (by kernel_rfl) rfl #[.agg #[.slice A0_0 l0_0.length c0_0, .slice A0_1 l0_1.length c0_1, .int .i64 a0_2]] rfl (by (try simp only [List.map_toArray, List.map_cons, List.map_nil]); first | done | rfl | (simp only [List.length_drop, List.length_take]; rfl)) ?_; (with_reducible refine (laws_toShow.calls k _ _ l0_0 _ _ l0_1 a0_2 t11011 t11014 t11017 _ ?side1 ?side2 ?side3 ?side4 A12.out).mono ?_); (case side1 => repeat (first | exact (Kd.C_below HR0_0.out HB.out) | (with_reducible refine Kd.C_alloc ?_ _) | (with_reducible refine Kd.C_drewN ?_ _) | (with_reducible refine Kd.C_drew ?_))); (case side2 => exact HC0_0.out); (case side3 => repeat (first | exact (Kd.C_below HR0_1.out HB.out) | (with_reducible refine Kd.C_alloc ?_ _) | (with_reducible refine Kd.C_drewN ?_ _) | (with_reducible refine Kd.C_drew ?_))); (case side4 => exact HC0_1.out); rintro e w27 ⟨v11012, v11015, rfl, ho0, ho1, hb⟩; refine ⟨_, rfl, ?_⟩; have n0_ := Aside0.mk (Kd.S_elder' (by (with_reducible repeat (first | apply Kd.S_alloc | apply Kd.S_drewN | apply Kd.S_drew)); exact HO11005.out) (Kd.S_base ho0) hb); have n1_ := Aside0.mk (Kd.R_elder' (by (with_reducible repeat (first | apply Kd.R_alloc | apply Kd.R_drewN | apply Kd.R_drew)); exact HO11008.out) (Kd.R_base ho1) hb); have n2_ := Aside0.mk (Kd.S_lower (Kd.S_new' ho0 (Kd.S_lt (by (with_reducible repeat (first | apply Kd.S_alloc | apply Kd.S_drewN | apply Kd.S_drew)); exact HO11005.out))) (below_size (by repeat (first | (with_reducible first | exact HB.out | apply below_alloc | apply pw_below_drewN | apply below_drew1 | refine below_set ?_ GE11001.out) | exact HB.out)))); have n3_ := Aside0.mk (Kd.R_lower (Kd.R_new' ho1 (Kd.R_lt (by (with_reducible repeat (first | apply Kd.R_alloc | apply Kd.R_drewN | apply Kd.R_drew)); exact HO11008.out))) (below_size (by repeat (first | (with_reducible first | exact HB.out | apply below_alloc | apply pw_below_drewN | apply below_drew1 | refine below_set ?_ GE11001.out) | exact HB.out)))); have n4_ := Aside0.mk (blk_below (g := gb11001) (o := .cells #[.slice A0_0 l0_0.length c0_0, .slice A0_1 l0_1.length c0_1, .int .i64 a0_2] 49 (0, 0)) (by (with_reducible repeat (first | refine blk_drewN ?_ _ | refine blk_drew ?_ | refine blk_alloc ?_ _)); exact BK11001.out) hb); have n5_ := Aside0.mk (below_step (by repeat (first | (with_reducible first | exact HB.out | apply below_alloc | apply pw_below_drewN | apply below_drew1 | refine below_set ?_ GE11001.out) | exact HB.out)) hb); clear HO11005; clear HO11008; clear BK11001; clear HB; have HO11005 := n0_; have HO11008 := n1_; have HO11013 := n2_; have HO11016 := n3_; have BK11001 := n4_; have HB := n5_; clear n0_ n1_ n2_ n3_ n4_ n5_; (try clear hb); (try clear hb2); (try clear hk); (try clear hi); (try clear ho0); (try clear ho1)) | ((with_reducible refine gate_dst (N := 7) rfl ?_); refine box_event ?hg (N := 7) ?hd (cs := #[.slice none 0 0, .slice none 0 0, .int .i64 0]) (t := 55) ?hr ?_; (case hd => rfl); (case hg => rfl); (case hr => first | (go_simp; done) | (go_simp; rfl)); intro gb11018 hg w28 hbox hb; have n0_ := Aside0.mk (Kd.S_below (by (with_reducible repeat (first | apply Kd.S_alloc | apply Kd.S_drewN | apply Kd.S_drew)); exact HO11005.out) hb); have n1_ := Aside0.mk (Kd.R_below (by (with_reducible repeat (first | apply Kd.R_alloc | apply Kd.R_drewN | apply Kd.R_drew)); exact HO11008.out) hb); have n2_ := Aside0.mk (Kd.S_below (by (with_reducible repeat (first | apply Kd.S_alloc | apply Kd.S_drewN | apply Kd.S_drew)); exact HO11013.out) hb); have n3_ := Aside0.mk (Kd.R_below (by (with_reducible repeat (first | apply Kd.R_alloc | apply Kd.R_drewN | apply Kd.R_drew)); exact HO11016.out) hb); have n4_ := Aside0.mk (blk_below (g := gb11001) (o := .cells #[.slice A0_0 l0_0.length c0_0, .slice A0_1 l0_1.length c0_1, .int .i64 a0_2] 49 (0, 0)) (by (with_reducible repeat (first | refine blk_drewN ?_ _ | refine blk_drew ?_ | refine blk_alloc ?_ _)); exact BK11001.out) hb); have n5_ := Aside0.mk (below_step (by repeat (first | (with_reducible first | exact HB.out | apply below_alloc | apply pw_below_drewN | apply below_drew1 | refine below_set ?_ GE11001.out) | exact HB.out)) hb); have n6_ := Aside0.mk (hbox); have n7_ := Aside0.mk ((by rw [hg]; exact (below_size (by repeat (first | (with_reducible first | exact HB.out | apply below_alloc | apply pw_below_drewN | apply below_drew1 | refine below_set ?_ GE11001.out) | exact HB.out))) : w.heap.size ≤ gb11018)); have n8_ := Aside0.mk ((by rw [hg]; exact (below_size (by repeat (first | (with_reducible first | exact HB.out | apply below_alloc | apply pw_below_drewN | apply below_drew1 | refine below_set ?_ GE11001.out) | exact HB.out))) : w.heap.size ≤ gb11018)); have n9_ := Aside0.mk ((by rw [hg]; exact Nat.ne_of_lt (blk_lt (g := gb11001) (o := .cells #[.slice A0_0 l0_0.length c0_0, .slice A0_1 l0_1.length c0_1, .int .i64 a0_2] 49 (0, 0)) (by (with_reducible repeat (first | refine blk_drewN ?_ _ | refine blk_drew ?_ | refine blk_alloc ?_ _)); exact BK11001.out)) : gb11001 ≠ gb11018)); have n10_ := Aside0.mk ((by rw [hg]; exact Nat.ne_of_gt (blk_lt (g := gb11001) (o := .cells #[.slice A0_0 l0_0.length c0_0, .slice A0_1 l0_1.length c0_1, .int .i64 a0_2] 49 (0, 0)) (by (with_reducible repeat (first | refine blk_drewN ?_ _ | refine blk_drew ?_ | refine blk_alloc ?_ _)); exact BK11001.out)) : gb11018 ≠ gb11001)); clear HO11005; clear HO11008; clear HO11013; clear HO11016; clear BK11001; clear HB; have HO11005 := n0_; have HO11008 := n1_; have HO11013 := n2_; have HO11016 := n3_; have BK11001 := n4_; have HB := n5_; have BK11018 := n6_; have GW11018 := n7_; have GE11018 := n8_; have NB11001_11018 := n9_; have NB11018_11001 := n10_; clear n0_ n1_ n2_ n3_ n4_ n5_ n6_ n7_ n8_ n9_ n10_; clear hb hbox hg; obtain ⟨Ao29, co29, eo29⟩ := Kd.S_slice HO11013.out; subst eo29; have hnb30 := NB11018_11001.out; have hnc30 := NB11001_11018.out; have hcz31_0 : w28.cell? ⟨gb11018, 0, none⟩ = some (.slice none 0 0) := (blk_cell BK11018.out 0).trans rfl; have hcz31_1 : w28.cell? ⟨gb11018, 1, none⟩ = some (.slice none 0 0) := (blk_cell BK11018.out 1).trans rfl; have hcz31_2 : w28.cell? ⟨gb11018, 2, none⟩ = some (.int .i64 0) := (blk_cell BK11018.out 2).trans rfl; have hfz31_0 := blk_frozen BK11018.out 0; have hfz31_1 := blk_frozen BK11018.out 1; have hfz31_2 := blk_frozen BK11018.out 2; obtain ⟨Ao32, co32, eo32⟩ := Kd.R_slice HO11016.out; subst eo32) | ((with_reducible refine gate_callee (f := 43) rfl ?_); refine goesL_ (some 25) rfl rfl Try.func43 (by kernel_rfl) rfl #[.agg #[.slice Ao29 t11011.length co29, .slice Ao32 t11014.length co32, .int .i64 t11017], .string a1] rfl (by (try simp only [List.map_toArray, List.map_cons, List.map_nil]); first | done | rfl | (simp only [List.length_drop, List.length_take]; rfl)) ?_; (with_reducible refine (impl_NodeNamed.calls _ _ t11011 _ _ t11014 t11017 a1 t11019 _ ?side1 ?side2 ?side3 ?side4 A13.out).mono ?_); (case side1 => refine (Kd.S_reads' (e := 42) (base := w.heap.size) (ok := fun k_ => (True ∧ some k_ ≠ (.slice Ao23 t11003.length co23 : Value).ownBlock)) (n := t11011.length) (c := co29) ?_).2.2; exact (by (with_reducible repeat (first | apply Kd.S_alloc | apply Kd.S_drewN | apply Kd.S_drew)); exact (Kd.S_mono (Kd.S_far (p := ⟨gb11018, 2, none⟩) (Kd.S_far (p := ⟨gb11018, 1, none⟩) (Kd.S_far (p := ⟨gb11018, 0, none⟩) (Kd.S_types HO11013.out BK11018.out (by decide)) (fun _ hk => hk.2) (.slice Ao29 t11011.length co29)) (fun _ hk => hk.2) (.slice Ao32 t11014.length co32)) (fun _ hk => hk.2) (.int .i64 t11017)) (fun _ h_ => h_.1)))); (case side2 => exact (Kd.S_reads' HO11013.out).2.1); (case side3 => refine (Kd.R_reads' (e := 77) (base := w.heap.size) (ok := fun k_ => (True ∧ some k_ ≠ (.slice Ao24 t11006.length co24 : Value).ownBlock)) (n := t11014.length) (c := co32) ?_).2.2; exact (by (with_reducible repeat (first | apply Kd.R_alloc | apply Kd.R_drewN | apply Kd.R_drew)); exact (Kd.R_mono (Kd.R_far (p := ⟨gb11018, 2, none⟩) (Kd.R_far (p := ⟨gb11018, 1, none⟩) (Kd.R_far (p := ⟨gb11018, 0, none⟩) (Kd.R_types HO11016.out BK11018.out (by decide)) (fun _ hk => hk.2) (.slice Ao29 t11011.length co29)) (fun _ hk => hk.2) (.slice Ao32 t11014.length co32)) (fun _ hk => hk.2) (.int .i64 t11017)) (fun _ h_ => h_.1)))); (case side4 => exact (Kd.R_reads' HO11016.out).2.1); rintro e w33 ⟨rfl, hb⟩; refine ⟨_, rfl, ?_⟩; have n0_ := Aside0.mk (Kd.S_below (by (with_reducible repeat (first | apply Kd.S_alloc | apply Kd.S_drewN | apply Kd.S_drew)); exact (Kd.S_mono (Kd.S_far (p := ⟨gb11018, 2, none⟩) (Kd.S_far (p := ⟨gb11018, 1, none⟩) (Kd.S_far (p := ⟨gb11018, 0, none⟩) (Kd.S_types HO11005.out BK11018.out (by decide)) (fun _ hk => hk.2) (.slice Ao29 t11011.length co29)) (fun _ hk => hk.2) (.slice Ao32 t11014.length co32)) (fun _ hk => hk.2) (.int .i64 t11017)) (fun _ h_ => h_.1))) hb); have n1_ := Aside0.mk (Kd.R_below (by (with_reducible repeat (first | apply Kd.R_alloc | apply Kd.R_drewN | apply Kd.R_drew)); exact (Kd.R_mono (Kd.R_far (p := ⟨gb11018, 2, none⟩) (Kd.R_far (p := ⟨gb11018, 1, none⟩) (Kd.R_far (p := ⟨gb11018, 0, none⟩) (Kd.R_types HO11008.out BK11018.out (by decide)) (fun _ hk => hk.2) (.slice Ao29 t11011.length co29)) (fun _ hk => hk.2) (.slice Ao32 t11014.length co32)) (fun _ hk => hk.2) (.int .i64 t11017)) (fun _ h_ => h_.1))) hb); have n2_ := Aside0.mk (Kd.S_below (by (with_reducible repeat (first | apply Kd.S_alloc | apply Kd.S_drewN | apply Kd.S_drew)); exact (Kd.S_mono (Kd.S_far (p := ⟨gb11018, 2, none⟩) (Kd.S_far (p := ⟨gb11018, 1, none⟩) (Kd.S_far (p := ⟨gb11018, 0, none⟩) (Kd.S_types HO11013.out BK11018.out (by decide)) (fun _ hk => hk.2) (.slice Ao29 t11011.length co29)) (fun _ hk => hk.2) (.slice Ao32 t11014.length co32)) (fun _ hk => hk.2) (.int .i64 t11017)) (fun _ h_ => h_.1))) hb); have n3_ := Aside0.mk (Kd.R_below (by (with_reducible repeat (first | apply Kd.R_alloc | apply Kd.R_drewN | apply Kd.R_drew)); exact (Kd.R_mono (Kd.R_far (p := ⟨gb11018, 2, none⟩) (Kd.R_far (p := ⟨gb11018, 1, none⟩) (Kd.R_far (p := ⟨gb11018, 0, none⟩) (Kd.R_types HO11016.out BK11018.out (by decide)) (fun _ hk => hk.2) (.slice Ao29 t11011.length co29)) (fun _ hk => hk.2) (.slice Ao32 t11014.length co32)) (fun _ hk => hk.2) (.int .i64 t11017)) (fun _ h_ => h_.1))) hb); have n4_ := Aside0.mk (blk_below (g := gb11001) (o := .cells #[.slice A0_0 l0_0.length c0_0, .slice A0_1 l0_1.length c0_1, .int .i64 a0_2] 49 (0, 0)) (by (with_reducible repeat (first | refine blk_drewN ?_ _ | refine blk_drew ?_ | refine blk_alloc ?_ _)); refine blk_far ?_ NB11001_11018.out _; (with_reducible repeat (first | refine blk_drewN ?_ _ | refine blk_drew ?_ | refine blk_alloc ?_ _)); refine blk_far ?_ NB11001_11018.out _; (with_reducible repeat (first | refine blk_drewN ?_ _ | refine blk_drew ?_ | refine blk_alloc ?_ _)); refine blk_far ?_ NB11001_11018.out _; (with_reducible repeat (first | refine blk_drewN ?_ _ | refine blk_drew ?_ | refine blk_alloc ?_ _)); exact BK11001.out) hb); have n5_ := Aside0.mk (blk_below (g := gb11018) (o := .cells #[.slice Ao29 t11011.length co29, .slice Ao32 t11014.length co32, .int .i64 t11017] 55 (0, 0)) (by (with_reducible repeat (first | refine blk_drewN ?_ _ | refine blk_drew ?_ | refine blk_alloc ?_ _)); refine blk_put (cs := #[.slice Ao29 t11011.length co29, .slice Ao32 t11014.length co32, .int .i64 0]) ?_ 2 _ rfl; (with_reducible repeat (first | refine blk_drewN ?_ _ | refine blk_drew ?_ | refine blk_alloc ?_ _)); refine blk_put (cs := #[.slice Ao29 t11011.length co29, .slice none 0 0, .int .i64 0]) ?_ 1 _ rfl; (with_reducible repeat (first | refine blk_drewN ?_ _ | refine blk_drew ?_ | refine blk_alloc ?_ _)); refine blk_put (cs := #[.slice none 0 0, .slice none 0 0, .int .i64 0]) ?_ 0 _ rfl; (with_reducible repeat (first | refine blk_drewN ?_ _ | refine blk_drew ?_ | refine blk_alloc ?_ _)); exact BK11018.out) hb); have n6_ := Aside0.mk (below_step (by repeat (first | (with_reducible first | exact HB.out | apply below_alloc | apply pw_below_drewN | apply below_drew1 | refine below_set ?_ GE11001.out | refine below_set ?_ GE11018.out) | exact HB.out)) hb); clear HO11005; clear HO11008; clear HO11013; clear HO11016; clear BK11001; clear BK11018; clear HB; have HO11005 := n0_; have HO11008 := n1_; have HO11013 := n2_; have HO11016 := n3_; have BK11001 := n4_; have BK11018 := n5_; have HB := n6_; clear n0_ n1_ n2_ n3_ n4_ n5_ n6_; (try clear hb); (try clear hb2); (try clear hk); (try clear hi)))
          have n0_ := Aside0.mk (Kd.S_drew HO11005.out)
          have n1_ := Aside0.mk (Kd.R_drew HO11008.out)
          have n2_ := Aside0.mk (Kd.S_drew HO11013.out)
          have n3_ := Aside0.mk (Kd.R_drew HO11016.out)
          have n4_ := Aside0.mk (blk_drew BK11001.out)
          have n5_ := Aside0.mk (blk_drew BK11018.out)
          have n6_ := Aside0.mk (below_drew1 HB.out)
          clear HO11005
          clear HO11008
          clear HO11013
          clear HO11016
          clear BK11001
          clear BK11018
          clear HB
          have HO11005 := n0_
          have HO11008 := n1_
          have HO11013 := n2_
          have HO11016 := n3_
          have BK11001 := n4_
          have BK11018 := n5_
          have HB := n6_
          clear n0_ n1_ n2_ n3_ n4_ n5_ n6_
          refine start_ (n := 5) (S := fun w' => w'.cell? ⟨gb11018, 0, none⟩ = some (.slice Ao29 t11011.length co29) ∧ w'.cell? ⟨gb11018, 1, none⟩ = some (.slice Ao32 t11014.length co32) ∧ w'.cell? ⟨gb11018, 2, none⟩ = some (.int .i64 t11017) ∧ w'.cell? ⟨gb11001, 0, none⟩ = some (.slice A0_0 l0_0.length c0_0) ∧ w'.cell? ⟨gb11001, 1, none⟩ = some (.slice A0_1 l0_1.length c0_1) ∧ w'.cell? ⟨gb11001, 2, none⟩ = some (.int .i64 a0_2)) (ds := []) #[false, false, false, false, false] (by kernel_rfl) rfl rfl ⟨(blk_cell BK11018.out 0).trans rfl, (blk_cell BK11018.out 1).trans rfl, (blk_cell BK11018.out 2).trans rfl, (blk_cell BK11001.out 0).trans rfl, (blk_cell BK11001.out 1).trans rfl, (blk_cell BK11001.out 2).trans rfl⟩ (fun hHeld => ?_)
          generalize w33.drew = w34 at HO11005 HO11008 HO11013 HO11016 BK11001 BK11018 HB hHeld ⊢
          refine take_ (i := 0) (N := some 29) (v := ?_) (a' := ?_) #[true, false, false, false, false] rfl rfl (by kernel_rfl) (fun _ _ _ h => h) (Or.inl ⟨by rfl, ?_⟩) hHeld ?_ ?_
          rotate_left
          · rintro w' ⟨s0, s1, s2, s3, s4, s5⟩
            go_simp
            with_reducible rfl
          rotate_left
          · simp only [Act.put, List.setIfInBounds_toArray, List.set_cons_zero, List.set_cons_succ, i64_w, i32_w]
            rfl
          refine take_ (i := 1) (N := some 30) (v := ?_) (a' := ?_) #[true, true, false, false, false] rfl rfl (by kernel_rfl) (fun _ _ _ h => h) (Or.inl ⟨by rfl, ?_⟩) hHeld ?_ ?_
          rotate_left
          · rintro w' ⟨s0, s1, s2, s3, s4, s5⟩
            go_simp
            with_reducible rfl
          rotate_left
          · simp only [Act.put, List.setIfInBounds_toArray, List.set_cons_zero, List.set_cons_succ, i64_w, i32_w]
            rfl
          refine one_ (i := 2) (N := some 31) #[true, true, true, false, false] rfl rfl (by kernel_rfl) (by decide) (fun K hK => ?_)
          refine goes_ Try.func42 (by kernel_rfl) rfl #[.agg #[.slice A0_0 l0_0.length c0_0, .slice A0_1 l0_1.length c0_1, .int .i64 a0_2]] (by rfl) rfl rfl (by (try simp only [List.map_toArray, List.map_cons, List.map_nil]); first | done | rfl | (simp only [List.length_drop, List.length_take]; rfl)) ?_
          with_reducible refine (laws_toShow.calls k _ _ l0_0 _ _ l0_1 a0_2 t11020 t11023 t11026 _ ?side1 ?side2 ?side3 ?side4 A15.out).mono ?_
          (case side1 => repeat (first | exact (Kd.C_below HR0_0.out HB.out) | (with_reducible refine Kd.C_alloc ?_ _) | (with_reducible refine Kd.C_drewN ?_ _) | (with_reducible refine Kd.C_drew ?_)))
          (case side2 => exact HC0_0.out)
          (case side3 => repeat (first | exact (Kd.C_below HR0_1.out HB.out) | (with_reducible refine Kd.C_alloc ?_ _) | (with_reducible refine Kd.C_drewN ?_ _) | (with_reducible refine Kd.C_drew ?_)))
          (case side4 => exact HC0_1.out)
          rintro e w35 ⟨v11021, v11024, rfl, ho0, ho1, hb⟩
          refine ⟨_, rfl, ?_⟩
          have n0_ := Aside0.mk (Kd.S_elder' (by (with_reducible repeat (first | apply Kd.S_alloc | apply Kd.S_drewN | apply Kd.S_drew)); exact HO11005.out) (Kd.S_base ho0) hb)
          have n1_ := Aside0.mk (Kd.R_elder' (by (with_reducible repeat (first | apply Kd.R_alloc | apply Kd.R_drewN | apply Kd.R_drew)); exact HO11008.out) (Kd.R_base ho1) hb)
          have n2_ := Aside0.mk (Kd.S_elder' (by (with_reducible repeat (first | apply Kd.S_alloc | apply Kd.S_drewN | apply Kd.S_drew)); exact HO11013.out) (Kd.S_base ho0) hb)
          have n3_ := Aside0.mk (Kd.R_elder' (by (with_reducible repeat (first | apply Kd.R_alloc | apply Kd.R_drewN | apply Kd.R_drew)); exact HO11016.out) (Kd.R_base ho1) hb)
          have n4_ := Aside0.mk (Kd.S_lower (Kd.S_new' (Kd.S_new' ho0 (Kd.S_lt (by (with_reducible repeat (first | apply Kd.S_alloc | apply Kd.S_drewN | apply Kd.S_drew)); exact HO11005.out))) (Kd.S_lt (by (with_reducible repeat (first | apply Kd.S_alloc | apply Kd.S_drewN | apply Kd.S_drew)); exact HO11013.out))) (below_size (by repeat (first | (with_reducible first | exact HB.out | apply below_alloc | apply pw_below_drewN | apply below_drew1 | refine below_set ?_ GE11001.out | refine below_set ?_ GE11018.out) | exact HB.out))))
          have n5_ := Aside0.mk (Kd.R_lower (Kd.R_new' (Kd.R_new' ho1 (Kd.R_lt (by (with_reducible repeat (first | apply Kd.R_alloc | apply Kd.R_drewN | apply Kd.R_drew)); exact HO11008.out))) (Kd.R_lt (by (with_reducible repeat (first | apply Kd.R_alloc | apply Kd.R_drewN | apply Kd.R_drew)); exact HO11016.out))) (below_size (by repeat (first | (with_reducible first | exact HB.out | apply below_alloc | apply pw_below_drewN | apply below_drew1 | refine below_set ?_ GE11001.out | refine below_set ?_ GE11018.out) | exact HB.out))))
          have n6_ := Aside0.mk (blk_below (g := gb11001) (o := .cells #[.slice A0_0 l0_0.length c0_0, .slice A0_1 l0_1.length c0_1, .int .i64 a0_2] 49 (0, 0)) (by (with_reducible repeat (first | refine blk_drewN ?_ _ | refine blk_drew ?_ | refine blk_alloc ?_ _)); exact BK11001.out) hb)
          have n7_ := Aside0.mk (blk_below (g := gb11018) (o := .cells #[.slice Ao29 t11011.length co29, .slice Ao32 t11014.length co32, .int .i64 t11017] 55 (0, 0)) (by (with_reducible repeat (first | refine blk_drewN ?_ _ | refine blk_drew ?_ | refine blk_alloc ?_ _)); exact BK11018.out) hb)
          have n8_ := Aside0.mk (below_step (by repeat (first | (with_reducible first | exact HB.out | apply below_alloc | apply pw_below_drewN | apply below_drew1 | refine below_set ?_ GE11001.out | refine below_set ?_ GE11018.out) | exact HB.out)) hb)
          clear HO11005
          clear HO11008
          clear HO11013
          clear HO11016
          clear BK11001
          clear BK11018
          clear HB
          have HO11005 := n0_
          have HO11008 := n1_
          have HO11013 := n2_
          have HO11016 := n3_
          have HO11022 := n4_
          have HO11025 := n5_
          have BK11001 := n6_
          have BK11018 := n7_
          have HB := n8_
          clear n0_ n1_ n2_ n3_ n4_ n5_ n6_ n7_ n8_
          (try clear hb)
          (try clear hb2)
          (try clear hk)
          (try clear hi)
          (try clear ho0)
          (try clear ho1)
          obtain ⟨Ao36, co36, eo36⟩ := Kd.S_slice HO11022.out
          (first | subst eo36 | (injection eo36 with f1_ f2_ f3_; have f4_ := f1_.symm; have f5_ := f3_.symm; clear f1_ f2_ f3_; subst f4_; subst f5_))
          obtain ⟨Ao37, co37, eo37⟩ := Kd.R_slice HO11025.out
          (first | subst eo37 | (injection eo37 with f1_ f2_ f3_; have f4_ := f1_.symm; have f5_ := f3_.symm; clear f1_ f2_ f3_; subst f4_; subst f5_))
          refine hK.out _ _ ⟨(blk_cell BK11018.out 0).trans rfl, (blk_cell BK11018.out 1).trans rfl, (blk_cell BK11018.out 2).trans rfl, (blk_cell BK11001.out 0).trans rfl, (blk_cell BK11001.out 1).trans rfl, (blk_cell BK11001.out 2).trans rfl⟩ (fun hHeld => ?_)
          clear hK K
          refine norm_ (a' := ?_) ?_ ?_
          rotate_left
          · show Act.put _ (some 31) _ = _
            simp only [Act.put, List.setIfInBounds_toArray, List.set_cons_zero, List.set_cons_succ, i64_w, i32_w]
            rfl
          refine one_ (i := 3) (N := some 32) #[true, true, true, true, false] rfl rfl (by kernel_rfl) (by decide) (fun K hK => ?_)
          refine goes_ Try.func44 (by kernel_rfl) rfl #[.agg #[.slice Ao29 t11011.length co29, .slice Ao32 t11014.length co32, .int .i64 t11017], .agg #[.slice Ao36 t11020.length co36, .slice Ao37 t11023.length co37, .int .i64 t11026]] (by rfl) rfl rfl (by (try simp only [List.map_toArray, List.map_cons, List.map_nil]); first | done | rfl | (simp only [List.length_drop, List.length_take]; rfl)) ?_
          with_reducible refine (laws_eqShow.calls k _ _ t11011 _ _ t11014 t11017 _ _ t11020 _ _ t11023 t11026 true _ ?side1 ?side2 ?side3 ?side4 ?side5 ?side6 ?side7 ?side8 A16.out).mono ?_
          (case side1 => repeat (first | exact (Kd.S_reads' HO11013.out).2.2 | (with_reducible refine Kd.C_alloc ?_ _) | (with_reducible refine Kd.C_drewN ?_ _) | (with_reducible refine Kd.C_drew ?_)))
          (case side2 => exact (Kd.S_reads' HO11013.out).2.1)
          (case side3 => repeat (first | exact (Kd.R_reads' HO11016.out).2.2 | (with_reducible refine Kd.C_alloc ?_ _) | (with_reducible refine Kd.C_drewN ?_ _) | (with_reducible refine Kd.C_drew ?_)))
          (case side4 => exact (Kd.R_reads' HO11016.out).2.1)
          (case side5 => repeat (first | exact (Kd.S_reads' HO11022.out).2.2 | (with_reducible refine Kd.C_alloc ?_ _) | (with_reducible refine Kd.C_drewN ?_ _) | (with_reducible refine Kd.C_drew ?_)))
          (case side6 => exact (Kd.S_reads' HO11022.out).2.1)
          (case side7 => repeat (first | exact (Kd.R_reads' HO11025.out).2.2 | (with_reducible refine Kd.C_alloc ?_ _) | (with_reducible refine Kd.C_drewN ?_ _) | (with_reducible refine Kd.C_drew ?_)))
          (case side8 => exact (Kd.R_reads' HO11025.out).2.1)
          rintro e w38 ⟨rfl, hb⟩
          refine ⟨_, rfl, ?_⟩
          have n0_ := Aside0.mk (Kd.S_below (by (with_reducible repeat (first | apply Kd.S_alloc | apply Kd.S_drewN | apply Kd.S_drew)); exact HO11005.out) hb)
          have n1_ := Aside0.mk (Kd.R_below (by (with_reducible repeat (first | apply Kd.R_alloc | apply Kd.R_drewN | apply Kd.R_drew)); exact HO11008.out) hb)
          have n2_ := Aside0.mk (Kd.S_below (by (with_reducible repeat (first | apply Kd.S_alloc | apply Kd.S_drewN | apply Kd.S_drew)); exact HO11013.out) hb)
          have n3_ := Aside0.mk (Kd.R_below (by (with_reducible repeat (first | apply Kd.R_alloc | apply Kd.R_drewN | apply Kd.R_drew)); exact HO11016.out) hb)
          have n4_ := Aside0.mk (Kd.S_below (by (with_reducible repeat (first | apply Kd.S_alloc | apply Kd.S_drewN | apply Kd.S_drew)); exact HO11022.out) hb)
          have n5_ := Aside0.mk (Kd.R_below (by (with_reducible repeat (first | apply Kd.R_alloc | apply Kd.R_drewN | apply Kd.R_drew)); exact HO11025.out) hb)
          have n6_ := Aside0.mk (blk_below (g := gb11001) (o := .cells #[.slice A0_0 l0_0.length c0_0, .slice A0_1 l0_1.length c0_1, .int .i64 a0_2] 49 (0, 0)) (by (with_reducible repeat (first | refine blk_drewN ?_ _ | refine blk_drew ?_ | refine blk_alloc ?_ _)); exact BK11001.out) hb)
          have n7_ := Aside0.mk (blk_below (g := gb11018) (o := .cells #[.slice Ao29 t11011.length co29, .slice Ao32 t11014.length co32, .int .i64 t11017] 55 (0, 0)) (by (with_reducible repeat (first | refine blk_drewN ?_ _ | refine blk_drew ?_ | refine blk_alloc ?_ _)); exact BK11018.out) hb)
          have n8_ := Aside0.mk (below_step (by repeat (first | (with_reducible first | exact HB.out | apply below_alloc | apply pw_below_drewN | apply below_drew1 | refine below_set ?_ GE11001.out | refine below_set ?_ GE11018.out) | exact HB.out)) hb)
          clear HO11005
          clear HO11008
          clear HO11013
          clear HO11016
          clear HO11022
          clear HO11025
          clear BK11001
          clear BK11018
          clear HB
          have HO11005 := n0_
          have HO11008 := n1_
          have HO11013 := n2_
          have HO11016 := n3_
          have HO11022 := n4_
          have HO11025 := n5_
          have BK11001 := n6_
          have BK11018 := n7_
          have HB := n8_
          clear n0_ n1_ n2_ n3_ n4_ n5_ n6_ n7_ n8_
          (try clear hb)
          (try clear hb2)
          (try clear hk)
          (try clear hi)
          refine hK.out _ _ ⟨(blk_cell BK11018.out 0).trans rfl, (blk_cell BK11018.out 1).trans rfl, (blk_cell BK11018.out 2).trans rfl, (blk_cell BK11001.out 0).trans rfl, (blk_cell BK11001.out 1).trans rfl, (blk_cell BK11001.out 2).trans rfl⟩ (fun hHeld => ?_)
          clear hK K
          refine norm_ (a' := ?_) ?_ ?_
          rotate_left
          · show Act.put _ (some 32) _ = _
            simp only [Act.put, List.setIfInBounds_toArray, List.set_cons_zero, List.set_cons_succ, i64_w, i32_w]
            rfl
          refine pure_ (i := 4) (N := some 33) (v := ?_) (a' := ?_) #[true, true, true, true, true] rfl rfl (by kernel_rfl) (fun _ _ _ h => h) (Or.inl ⟨by rfl, ?_⟩) ?_ ?_
          rotate_left
          · intro w'
            go_simp
            with_reducible rfl
          rotate_left
          · simp only [Act.put, List.setIfInBounds_toArray, List.set_cons_zero, List.set_cons_succ, i64_w, i32_w]
            rfl
          refine done_ (by kernel_rfl) ?_
          try go_wp2
          go_ret
          exact ⟨by first | rfl | (simp [errW_none, errW_some] <;> rfl) | (simp [*, errW_none, errW_some] <;> rfl), by repeat (first | (with_reducible first | exact HB.out | apply below_alloc | apply pw_below_drewN | apply below_drew1 | refine below_set ?_ GE11001.out | refine below_set ?_ GE11018.out) | exact HB.out)⟩
        · replace c17 := Bool.eq_false_iff.mpr c17
          subst c17
          exact absurd H (by simp)
      · rw [if_neg c14] at H
        have c14b0 : (t11019 == t11010) = false := beq_eq_false_iff_ne.mpr c14
        have c14b1 : (t11019 != t11010) = true := bne_iff_ne.mpr c14
        exact absurd H (by simp)

end Go.Proofs.Ytammpmadchekeaa.Pr
