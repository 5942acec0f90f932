/- The texts of one claim, put together by a program of this session. -/
import Derived.Test.YtodfnelilhjoeaaBTic1x1
import Derived.Test.YtodfnelilhjoeaaBTic1x3
import Derived.Test.YtodfnelilhjoeaaBTic1x6
namespace Go.Proofs.Ytodfnelilhjoeaa.Pr
open Go.RowKit Go.Proofs.YtodfnelilhjoeaaW.PrintWords Go.Proofs.YtodfnelilhjoeaaW.PrintLast Go.Proofs.YtodfnelilhjoeaaW.PrintMore
attribute [local go_sem] max2_int min2_int max_two min_two max_three min_three max_four min_four
set_option linter.unusedVariables false
set_option linter.unusedSimpArgs false
mutual
def impl_TimesFor.j0 : Nat → List Int → Bool → List (S116) → List (S90) → Int → List Int → List Int → Option (List Int × Bool)
 | 0, _, _, _, _, _, _, _ => none
 | k + 1, x2, x32, x34002000, x34002001, x34002002, x34003000, x34003001 => if x32 = true then (some (([] : List Int), false)) else ((impl_freeTies.f k x34002000 x34002001 x34002002).bind fun t34005 => (impl_TimesFor.l0 k x2 t34005 ([] : List Int) (x34002000.length : Int) 0 x34002000 x34002001 x34002002 x34003000 x34003001))
def impl_TimesFor.l0 : Nat → List Int → List Int → List Int → Int → Int → List (S116) → List (S90) → Int → List Int → List Int → Option (List Int × Bool)
 | 0, _, _, _, _, _, _, _, _, _, _ => none
 | k + 1, x2, x8, x9, x37, x38, x34002000, x34002001, x34002002, x34003000, x34003001 => if x38 < x37 then ((impl_chainOf.f k x34002000 x34002001 x34002002 x38).bind fun bt34008 => (if 0 ≤ bt34008.1 then (if bt34008.1 < (x2.length : Int) then (impl_TimesFor.l1 k x2 x8 x9 (rd x2 bt34008.1) x37 x38 bt34008.2 (bt34008.2.length : Int) 0 x34002000 x34002001 x34002002 x34003000 x34003001) else (none)) else (none))) else (some (x9, true))
def impl_TimesFor.l1 : Nat → List Int → List Int → List Int → Int → Int → Int → List Int → Int → Int → List (S116) → List (S90) → Int → List Int → List Int → Option (List Int × Bool)
 | 0, _, _, _, _, _, _, _, _, _, _, _, _, _, _ => none
 | k + 1, x2, x8, x9, x13, x37, x38, x51, x52, x53, x34002000, x34002001, x34002002, x34003000, x34003001 => if x53 < x52 then (if 0 ≤ x53 then (if x53 < (x51.length : Int) then ((slices_Index_int_int.f x8 (rd x51 x53)).bind fun t34014 => (if 0 ≤ t34014 then (if t34014 < (x34003000.length : Int) then (impl_TimesFor.l1 k x2 x8 x9 (wrap64 (x13 + (rd x34003000 t34014))) x37 x38 x51 x52 (wrap64 (x53 + 1)) x34002000 x34002001 x34002002 x34003000 x34003001) else (none)) else (none))) else (none)) else (none)) else (if x9.length < 17592186044416 then (impl_TimesFor.l0 k x2 x8 (x9 ++ [x13]) x37 (wrap64 (x38 + 1)) x34002000 x34002001 x34002002 x34003000 x34003001) else (none))
end
def impl_TimesFor.f (k : Nat) (l0_0 : List (S116)) (l0_1 : List (S90)) (a0_2 : Int) (l1_0 : List Int) (l1_1 : List Int) (l2 : List Int) : Option (List Int × Bool) := (impl_ChoiceOk.f k l0_0 l0_1 a0_2 l1_0 l1_1).bind fun t34003 => (if t34003 = true then (if (l2.length : Int) = (l0_0.length : Int) then ((impl_isPlain.f k l0_0 l0_1 a0_2).bind fun t34004 => (impl_TimesFor.j0 k l2 (!t34004) l0_0 l0_1 a0_2 l1_0 l1_1)) else (impl_TimesFor.j0 k l2 true l0_0 l0_1 a0_2 l1_0 l1_1)) else (impl_TimesFor.j0 k l2 true l0_0 l0_1 a0_2 l1_0 l1_1))
def impl_TimesFor.T13 : Bool × List (List Nat × List Nat) := (true, [([], []), ([], []), ([1], [1]), ([], []), ([], []), ([3, 4], [3, 4]), ([2, 5], [2, 5]), ([6], [6]), ([0, 7], [0, 7]), ([8, 5, 0, 1, 2, 3, 4, 5, 6, 7, 8], [0, 8])])
def impl_TimesFor.B13 : List Nat := [0, 0, 2, 0, 0, 24, 62, 126, 255, 511]
theorem impl_TimesFor.tab13 : rtab .any (opsOf Try.f34 13) = impl_TimesFor.T13 := by kernel_rfl
theorem impl_TimesFor.bits13 : waitsOk impl_TimesFor.T13.2 impl_TimesFor.B13 = true := by kernel_rfl
set_option maxHeartbeats 8000000 in
set_option maxRecDepth 100000 in
theorem impl_TimesFor.calls (k : Nat) (A0_0 : Option Addr) (c0_0 : Nat) (l0_0 : List (S116)) (A0_1 : Option Addr) (c0_1 : Nat) (l0_1 : List (S90)) (a0_2 : Int) (A1_0 : Option Addr) (c1_0 : Nat) (l1_0 : List Int) (A1_1 : Option Addr) (c1_1 : Nat) (l1_1 : List Int) (A2 : Option Addr) (c2 : Nat) (l2 : List Int) (r1 : List Int) (r2 : Bool) (w : World) (hr0_0 : Kd.C k116 w A0_0 l0_0.length l0_0) (hc0_0 : l0_0.length ≤ c0_0) (hr0_1 : Kd.C k90 w A0_1 l0_1.length l0_1) (hc0_1 : l0_1.length ≤ c0_1) (hr1_0 : Kd.C (Kd.int .i64) w A1_0 l1_0.length l1_0) (hc1_0 : l1_0.length ≤ c1_0) (hr1_1 : Kd.C (Kd.int .i64) w A1_1 l1_1.length l1_1) (hc1_1 : l1_1.length ≤ c1_1) (hr2 : Kd.C (Kd.int .i64) w A2 l2.length l2) (hc2 : l2.length ≤ c2) (h : impl_TimesFor.f k l0_0 l0_1 a0_2 l1_0 l1_1 l2 = some (r1, r2)) :
  Calls Try.prog 34 #[.agg #[.slice A0_0 l0_0.length c0_0, .slice A0_1 l0_1.length c0_1, .int .i64 a0_2], .agg #[.slice A1_0 l1_0.length c1_0, .slice A1_1 l1_1.length c1_1], .slice A2 l2.length c2] w fun e w' => ∃ v0_ : Value, e = .returned (.tuple #[v0_, .bool r2]) ∧ Kd.R (Kd.int .i64) 3 w' w.heap.size (fun _ => True) v0_ r1 ∧ Below w.heap.size w w' := by
 have hu35 := Try.underlying35
 have hu37 := Try.underlying37
 have HR0_0 := Aside0.mk hr0_0; have HC0_0 := Aside0.mk hc0_0; clear hr0_0 hc0_0; have HR0_1 := Aside0.mk hr0_1; have HC0_1 := Aside0.mk hc0_1; clear hr0_1 hc0_1; have HR1_0 := Aside0.mk hr1_0; have HC1_0 := Aside0.mk hc1_0; clear hr1_0 hc1_0; have HR1_1 := Aside0.mk hr1_1; have HC1_1 := Aside0.mk hc1_1; clear hr1_1 hc1_1; have HR2 := Aside0.mk hr2; have HC2 := Aside0.mk hc2; clear hr2 hc2
 have HB := Aside0.mk (Below.refl w.heap.size w)
 have H : ((impl_ChoiceOk.f k l0_0 l0_1 a0_2 l1_0 l1_1).bind fun t34003 => (if t34003 = true then (if (l2.length : Int) = (l0_0.length : Int) then ((impl_isPlain.f k l0_0 l0_1 a0_2).bind fun t34004 => (impl_TimesFor.j0 k l2 (!t34004) l0_0 l0_1 a0_2 l1_0 l1_1)) else (impl_TimesFor.j0 k l2 true l0_0 l0_1 a0_2 l1_0 l1_1)) else (impl_TimesFor.j0 k l2 true l0_0 l0_1 a0_2 l1_0 l1_1))) = some (r1, r2) := h
 clear h; have HC4 := Aside0.mk H; clear H
 go_enter Try.func34, Try.ntmps34
 go_upto_region 1 with (first | ((with_reducible refine gate_dst (N := 3) rfl ?_); refine box_event ?hg (N := 3) ?hd (cs := #[.slice A0_0 l0_0.length c0_0, .slice A0_1 l0_1.length c0_1, .int .i64 a0_2]) (t := 35) ?hr ?_; (case hd => rfl); (case hg => rfl); (case hr => first | (go_simp; done) | (go_simp; rfl)); intro gb34001 hg w5 hbox hb; have n0_ := Aside0.mk (below_step (by exact HB.out) hb); have n1_ := Aside0.mk (hbox); have n2_ := Aside0.mk ((by rw [hg]; exact (below_size (by exact HB.out)) : w.heap.size ≤ gb34001)); have n3_ := n2_; clear HB; have HB := n0_; have BK34001 := n1_; have GW34001 := n2_; have GE34001 := n3_; clear n0_ n1_ n2_ n3_; clear hb hbox hg) | ((with_reducible refine gate_dst (N := 4) rfl ?_); refine box_event ?hg (N := 4) ?hd (cs := #[.slice A1_0 l1_0.length c1_0, .slice A1_1 l1_1.length c1_1]) (t := 37) ?hr ?_; (case hd => rfl); (case hg => rfl); (case hr => first | (go_simp; done) | (go_simp; rfl)); intro gb34002 hg w6 hbox hb; have n0_ := Aside0.mk (blk_below (g := gb34001) (o := .cells #[.slice A0_0 l0_0.length c0_0, .slice A0_1 l0_1.length c0_1, .int .i64 a0_2] 35 (0, 0)) BK34001.out hb); have n1_ := Aside0.mk (below_step (by exact HB.out) hb); have n2_ := Aside0.mk (hbox); have n3_ := Aside0.mk ((by rw [hg]; exact (below_size (by exact HB.out)) : w.heap.size ≤ gb34002)); have n4_ := n3_; have n5_ := Aside0.mk ((by rw [hg]; exact Nat.ne_of_lt (blk_lt (g := gb34001) (o := .cells #[.slice A0_0 l0_0.length c0_0, .slice A0_1 l0_1.length c0_1, .int .i64 a0_2] 35 (0, 0)) BK34001.out) : gb34001 ≠ gb34002)); have n6_ := Aside0.mk n5_.out.symm; clear BK34001; clear HB; have BK34001 := n0_; have HB := n1_; have BK34002 := n2_; have GW34002 := n3_; have GE34002 := n4_; have NB34001_34002 := n5_; have NB34002_34001 := n6_; clear n0_ n1_ n2_ n3_ n4_ n5_ n6_; clear hb hbox hg))
 (try simp only [Act.put, List.setIfInBounds_toArray, List.set_cons_zero, List.set_cons_succ])
 go_cut [32] (fun v32 wc => ∃ (kq : Nat) (x32_3 : Bool), v32 = .bool x32_3 ∧ Aside0 (impl_TimesFor.j0 kq l2 x32_3 l0_0 l0_1 a0_2 l1_0 l1_1 = some (r1, r2)) ∧ Aside0 (kq ≤ k) ∧ Aside0 (wc.heap[gb34001]? = some (.cells #[(.slice A0_0 l0_0.length c0_0), (.slice A0_1 l0_1.length c0_1), .int .i64 a0_2] 35 (0, 0))) ∧ Aside0 (wc.heap[gb34002]? = some (.cells #[(.slice A1_0 l1_0.length c1_0), (.slice A1_1 l1_1.length c1_1)] 37 (0, 0))) ∧ Aside0 (Below w.heap.size w wc))
 case first =>
  have H := HC4.out
  clear HC4
  replace H := Option.bind_eq_some_iff.mp H
  obtain ⟨t34003, A70, H⟩ := H
  replace H : (if t34003 = true then (if (l2.length : Int) = (l0_0.length : Int) then ((impl_isPlain.f k l0_0 l0_1 a0_2).bind fun t34004 => (impl_TimesFor.j0 k l2 (!t34004) l0_0 l0_1 a0_2 l1_0 l1_1)) else (impl_TimesFor.j0 k l2 true l0_0 l0_1 a0_2 l1_0 l1_1)) else (impl_TimesFor.j0 k l2 true l0_0 l0_1 a0_2 l1_0 l1_1)) = some (r1, r2) := H
  have A7 := Aside0.mk A70; clear A70
  by_cases c8 : t34003 = true
  ·subst c8
   have H1 : (if (l2.length : Int) = (l0_0.length : Int) then ((impl_isPlain.f k l0_0 l0_1 a0_2).bind fun t34004 => (impl_TimesFor.j0 k l2 (!t34004) l0_0 l0_1 a0_2 l1_0 l1_1)) else (impl_TimesFor.j0 k l2 true l0_0 l0_1 a0_2 l1_0 l1_1)) = some (r1, r2) := by rw [if_pos rfl] at H; exact H
   clear H
   have H := H1
   clear H1
   by_cases c9 : (l2.length : Int) = (l0_0.length : Int)
   ·rw [if_pos c9] at H
    have c9b0 : ((l2.length : Int) == (l0_0.length : Int)) = true := beq_iff_eq.mpr c9
    have c9b1 : ((l2.length : Int) != (l0_0.length : Int)) = false := bne_eq_false_iff_eq.mpr c9
    have c9b2 : (l2.length == l0_0.length) = true := by first | simpa using c9 | (simp at c9 ⊢; omega)
    clear c9
    (first | rw [c9b0] | (simp only [i64_w, i32_w]; rw [c9b0]) | skip)
    replace H := Option.bind_eq_some_iff.mp H
    obtain ⟨t34004, A100, H⟩ := H
    replace H : (impl_TimesFor.j0 k l2 (!t34004) l0_0 l0_1 a0_2 l1_0 l1_1) = some (r1, r2) := H
    have A10 := Aside0.mk A100; clear A100
    have H' := Aside0.mk H
    clear H
    have hnb11 := NB34001_34002.out
    have hnc11 := NB34002_34001.out
    have hcz12_0 : w6.cell? ⟨gb34001, 0, none⟩ = some (.slice A0_0 l0_0.length c0_0) := (blk_cell BK34001.out 0).trans rfl
    have hcz12_1 : w6.cell? ⟨gb34001, 1, none⟩ = some (.slice A0_1 l0_1.length c0_1) := (blk_cell BK34001.out 1).trans rfl
    have hcz12_2 : w6.cell? ⟨gb34001, 2, none⟩ = some (.int .i64 a0_2) := (blk_cell BK34001.out 2).trans rfl
    have hcz13_0 : w6.cell? ⟨gb34002, 0, none⟩ = some (.slice A1_0 l1_0.length c1_0) := (blk_cell BK34002.out 0).trans rfl
    have hcz13_1 : w6.cell? ⟨gb34002, 1, none⟩ = some (.slice A1_1 l1_1.length c1_1) := (blk_cell BK34002.out 1).trans rfl
    go_wp2_with (first | ((with_reducible refine gate_callee (f := 20) rfl ?_); refine goesL_ (some 18) rfl rfl Try.func20 (by kernel_rfl) rfl #[.agg #[.slice A0_0 l0_0.length c0_0, .slice A0_1 l0_1.length c0_1, .int .i64 a0_2], .agg #[.slice A1_0 l1_0.length c1_0, .slice A1_1 l1_1.length c1_1]] rfl (by (try simp only [List.map_toArray, List.map_cons, List.map_nil]); first | done | rfl | (simp only [List.length_drop, List.length_take]; rfl)) ?_; (with_reducible refine (impl_ChoiceOk.calls k _ _ l0_0 _ _ l0_1 a0_2 _ _ l1_0 _ _ l1_1 true _ ?side1 ?side2 ?side3 ?side4 ?side5 ?side6 ?side7 ?side8 A7.out).mono ?_); (case side1 => exact (Kd.C_below HR0_0.out HB.out)); (case side2 => exact HC0_0.out); (case side3 => exact (Kd.C_below HR0_1.out HB.out)); (case side4 => exact HC0_1.out); (case side5 => exact (Kd.C_below HR1_0.out HB.out)); (case side6 => exact HC1_0.out); (case side7 => exact (Kd.C_below HR1_1.out HB.out)); (case side8 => exact HC1_1.out); rintro e w14 ⟨rfl, hb⟩; refine ⟨_, rfl, ?_⟩; have n0_ := Aside0.mk (blk_below (g := gb34001) (o := .cells #[.slice A0_0 l0_0.length c0_0, .slice A0_1 l0_1.length c0_1, .int .i64 a0_2] 35 (0, 0)) BK34001.out hb); have n1_ := Aside0.mk (blk_below (g := gb34002) (o := .cells #[.slice A1_0 l1_0.length c1_0, .slice A1_1 l1_1.length c1_1] 37 (0, 0)) BK34002.out hb); have n2_ := Aside0.mk (below_step (by exact HB.out) hb); clear BK34001; clear BK34002; clear HB; have BK34001 := n0_; have BK34002 := n1_; have HB := n2_; clear n0_ n1_ n2_; have hcz15_0 : w14.cell? ⟨gb34001, 0, none⟩ = some (.slice A0_0 l0_0.length c0_0) := (blk_cell BK34001.out 0).trans rfl; have hcz15_1 : w14.cell? ⟨gb34001, 1, none⟩ = some (.slice A0_1 l0_1.length c0_1) := (blk_cell BK34001.out 1).trans rfl; have hcz15_2 : w14.cell? ⟨gb34001, 2, none⟩ = some (.int .i64 a0_2) := (blk_cell BK34001.out 2).trans rfl) | (go_at_call 87; (with_reducible refine (impl_isPlain.calls k _ _ l0_0 _ _ l0_1 a0_2 t34004 _ ?side1 ?side2 ?side3 ?side4 A10.out).mono ?_); (case side1 => exact (Kd.C_below HR0_0.out HB.out)); (case side2 => exact HC0_0.out); (case side3 => exact (Kd.C_below HR0_1.out HB.out)); (case side4 => exact HC0_1.out); rintro e w16 ⟨rfl, hb⟩; have n0_ := Aside0.mk (blk_below (g := gb34001) (o := .cells #[.slice A0_0 l0_0.length c0_0, .slice A0_1 l0_1.length c0_1, .int .i64 a0_2] 35 (0, 0)) BK34001.out hb); have n1_ := Aside0.mk (blk_below (g := gb34002) (o := .cells #[.slice A1_0 l1_0.length c1_0, .slice A1_1 l1_1.length c1_1] 37 (0, 0)) BK34002.out hb); have n2_ := Aside0.mk (below_step (by exact HB.out) hb); clear BK34001; clear BK34002; clear HB; have BK34001 := n0_; have BK34002 := n1_; have HB := n2_; clear n0_ n1_ n2_; (try clear hi)))
    go_meet
    case rel => exact ⟨_, (!t34004), (by first | rfl | (simp; done) | (simp [*]; done)), H', ⟨by first | omega | exact Nat.le_refl _⟩, ⟨by (with_reducible repeat (first | refine blk_drewN ?_ _ | refine blk_drew ?_ | refine blk_alloc ?_ _)); exact BK34001.out⟩, ⟨by (with_reducible repeat (first | refine blk_drewN ?_ _ | refine blk_drew ?_ | refine blk_alloc ?_ _)); exact BK34002.out⟩, ⟨by repeat (first | (with_reducible first | exact HB.out | apply below_alloc | apply pw_below_drewN | apply below_drew1 | refine below_set ?_ GE34001.out | refine below_set ?_ GE34002.out) | exact HB.out)⟩⟩
   ·rw [if_neg c9] at H
    have c9b0 : ((l2.length : Int) == (l0_0.length : Int)) = false := beq_eq_false_iff_ne.mpr c9
    have c9b1 : ((l2.length : Int) != (l0_0.length : Int)) = true := bne_iff_ne.mpr c9
    have c9b2 : (l2.length == l0_0.length) = false := by first | simpa using c9 | (simp at c9 ⊢; omega)
    (first | rw [c9b0] | (simp only [i64_w, i32_w]; rw [c9b0]) | skip)
    have H' := Aside0.mk H
    clear H
    have hnb17 := NB34001_34002.out
    have hnc17 := NB34002_34001.out
    have hcz18_0 : w6.cell? ⟨gb34001, 0, none⟩ = some (.slice A0_0 l0_0.length c0_0) := (blk_cell BK34001.out 0).trans rfl
    have hcz18_1 : w6.cell? ⟨gb34001, 1, none⟩ = some (.slice A0_1 l0_1.length c0_1) := (blk_cell BK34001.out 1).trans rfl
    have hcz18_2 : w6.cell? ⟨gb34001, 2, none⟩ = some (.int .i64 a0_2) := (blk_cell BK34001.out 2).trans rfl
    have hcz19_0 : w6.cell? ⟨gb34002, 0, none⟩ = some (.slice A1_0 l1_0.length c1_0) := (blk_cell BK34002.out 0).trans rfl
    have hcz19_1 : w6.cell? ⟨gb34002, 1, none⟩ = some (.slice A1_1 l1_1.length c1_1) := (blk_cell BK34002.out 1).trans rfl
    go_wp2_with (first | ((with_reducible refine gate_callee (f := 20) rfl ?_); refine goesL_ (some 18) rfl rfl Try.func20 (by kernel_rfl) rfl #[.agg #[.slice A0_0 l0_0.length c0_0, .slice A0_1 l0_1.length c0_1, .int .i64 a0_2], .agg #[.slice A1_0 l1_0.length c1_0, .slice A1_1 l1_1.length c1_1]] rfl (by (try simp only [List.map_toArray, List.map_cons, List.map_nil]); first | done | rfl | (simp only [List.length_drop, List.length_take]; rfl)) ?_; (with_reducible refine (impl_ChoiceOk.calls k _ _ l0_0 _ _ l0_1 a0_2 _ _ l1_0 _ _ l1_1 true _ ?side1 ?side2 ?side3 ?side4 ?side5 ?side6 ?side7 ?side8 A7.out).mono ?_); (case side1 => exact (Kd.C_below HR0_0.out HB.out)); (case side2 => exact HC0_0.out); (case side3 => exact (Kd.C_below HR0_1.out HB.out)); (case side4 => exact HC0_1.out); (case side5 => exact (Kd.C_below HR1_0.out HB.out)); (case side6 => exact HC1_0.out); (case side7 => exact (Kd.C_below HR1_1.out HB.out)); (case side8 => exact HC1_1.out); rintro e w20 ⟨rfl, hb⟩; refine ⟨_, rfl, ?_⟩; have n0_ := Aside0.mk (blk_below (g := gb34001) (o := .cells #[.slice A0_0 l0_0.length c0_0, .slice A0_1 l0_1.length c0_1, .int .i64 a0_2] 35 (0, 0)) BK34001.out hb); have n1_ := Aside0.mk (blk_below (g := gb34002) (o := .cells #[.slice A1_0 l1_0.length c1_0, .slice A1_1 l1_1.length c1_1] 37 (0, 0)) BK34002.out hb); have n2_ := Aside0.mk (below_step (by exact HB.out) hb); clear BK34001; clear BK34002; clear HB; have BK34001 := n0_; have BK34002 := n1_; have HB := n2_; clear n0_ n1_ n2_; have hcz21_0 : w20.cell? ⟨gb34001, 0, none⟩ = some (.slice A0_0 l0_0.length c0_0) := (blk_cell BK34001.out 0).trans rfl; have hcz21_1 : w20.cell? ⟨gb34001, 1, none⟩ = some (.slice A0_1 l0_1.length c0_1) := (blk_cell BK34001.out 1).trans rfl; have hcz21_2 : w20.cell? ⟨gb34001, 2, none⟩ = some (.int .i64 a0_2) := (blk_cell BK34001.out 2).trans rfl))
    go_meet
    case rel => exact ⟨_, (true), (by first | rfl | (simp; done) | (simp [*]; done)), H', ⟨by first | omega | exact Nat.le_refl _⟩, ⟨by (with_reducible repeat (first | refine blk_drewN ?_ _ | refine blk_drew ?_ | refine blk_alloc ?_ _)); exact BK34001.out⟩, ⟨by (with_reducible repeat (first | refine blk_drewN ?_ _ | refine blk_drew ?_ | refine blk_alloc ?_ _)); exact BK34002.out⟩, ⟨by repeat (first | (with_reducible first | exact HB.out | apply below_alloc | apply pw_below_drewN | apply below_drew1 | refine below_set ?_ GE34001.out | refine below_set ?_ GE34002.out) | exact HB.out)⟩⟩
  ·replace c8 := Bool.eq_false_iff.mpr c8
   subst c8
   have H1 : (impl_TimesFor.j0 k l2 true l0_0 l0_1 a0_2 l1_0 l1_1) = some (r1, r2) := by rw [if_neg (show ¬ (false = true) by decide)] at H; exact H
   clear H
   have H := H1
   clear H1
   have H' := Aside0.mk H
   clear H
   have hnb22 := NB34001_34002.out
   have hnc22 := NB34002_34001.out
   have hcz23_0 : w6.cell? ⟨gb34001, 0, none⟩ = some (.slice A0_0 l0_0.length c0_0) := (blk_cell BK34001.out 0).trans rfl
   have hcz23_1 : w6.cell? ⟨gb34001, 1, none⟩ = some (.slice A0_1 l0_1.length c0_1) := (blk_cell BK34001.out 1).trans rfl
   have hcz23_2 : w6.cell? ⟨gb34001, 2, none⟩ = some (.int .i64 a0_2) := (blk_cell BK34001.out 2).trans rfl
   have hcz24_0 : w6.cell? ⟨gb34002, 0, none⟩ = some (.slice A1_0 l1_0.length c1_0) := (blk_cell BK34002.out 0).trans rfl
   have hcz24_1 : w6.cell? ⟨gb34002, 1, none⟩ = some (.slice A1_1 l1_1.length c1_1) := (blk_cell BK34002.out 1).trans rfl
   go_wp2_with (first | ((with_reducible refine gate_callee (f := 20) rfl ?_); refine goesL_ (some 18) rfl rfl Try.func20 (by kernel_rfl) rfl #[.agg #[.slice A0_0 l0_0.length c0_0, .slice A0_1 l0_1.length c0_1, .int .i64 a0_2], .agg #[.slice A1_0 l1_0.length c1_0, .slice A1_1 l1_1.length c1_1]] rfl (by (try simp only [List.map_toArray, List.map_cons, List.map_nil]); first | done | rfl | (simp only [List.length_drop, List.length_take]; rfl)) ?_; (with_reducible refine (impl_ChoiceOk.calls k _ _ l0_0 _ _ l0_1 a0_2 _ _ l1_0 _ _ l1_1 false _ ?side1 ?side2 ?side3 ?side4 ?side5 ?side6 ?side7 ?side8 A7.out).mono ?_); (case side1 => exact (Kd.C_below HR0_0.out HB.out)); (case side2 => exact HC0_0.out); (case side3 => exact (Kd.C_below HR0_1.out HB.out)); (case side4 => exact HC0_1.out); (case side5 => exact (Kd.C_below HR1_0.out HB.out)); (case side6 => exact HC1_0.out); (case side7 => exact (Kd.C_below HR1_1.out HB.out)); (case side8 => exact HC1_1.out); rintro e w25 ⟨rfl, hb⟩; refine ⟨_, rfl, ?_⟩; have n0_ := Aside0.mk (blk_below (g := gb34001) (o := .cells #[.slice A0_0 l0_0.length c0_0, .slice A0_1 l0_1.length c0_1, .int .i64 a0_2] 35 (0, 0)) BK34001.out hb); have n1_ := Aside0.mk (blk_below (g := gb34002) (o := .cells #[.slice A1_0 l1_0.length c1_0, .slice A1_1 l1_1.length c1_1] 37 (0, 0)) BK34002.out hb); have n2_ := Aside0.mk (below_step (by exact HB.out) hb); clear BK34001; clear BK34002; clear HB; have BK34001 := n0_; have BK34002 := n1_; have HB := n2_; clear n0_ n1_ n2_; (try clear hi)))
   go_meet
   case rel => exact ⟨_, (true), (by first | rfl | (simp; done) | (simp [*]; done)), H', ⟨by first | omega | exact Nat.le_refl _⟩, ⟨by (with_reducible repeat (first | refine blk_drewN ?_ _ | refine blk_drew ?_ | refine blk_alloc ?_ _)); exact BK34001.out⟩, ⟨by (with_reducible repeat (first | refine blk_drewN ?_ _ | refine blk_drew ?_ | refine blk_alloc ?_ _)); exact BK34002.out⟩, ⟨by repeat (first | (with_reducible first | exact HB.out | apply below_alloc | apply pw_below_drewN | apply below_drew1 | refine below_set ?_ GE34001.out | refine below_set ?_ GE34002.out) | exact HB.out)⟩⟩
 case rest =>
  clear HC4
  try clear c1
  try clear c2
  try clear p2
  try clear c3
  try clear c8
  try clear c9
  try clear c9b0
  try clear c9b1
  try clear c9b2
  try clear c11
  try clear c17
  try clear c20
  try clear c22
  obtain ⟨kq, x32_3, rfl, HA, HJ3, BK34001, BK34002, HB⟩ := hcut
  cases kq with
  | zero => exact absurd HA.out (by simp [impl_TimesFor.j0])
  | succ kj3 =>
   have H := HA.out
   clear HA
   simp only [impl_TimesFor.j0] at H
   by_cases c26 : x32_3 = true
   ·subst c26
    have H1 : (some (([] : List Int), false)) = some (r1, r2) := by rw [if_pos rfl] at H; exact H
    clear H
    have H := H1
    clear H1
    simp only [Option.some.injEq, Prod.mk.injEq] at H
    obtain ⟨rfl, rfl⟩ := H
    go_wp2
    go_ret2
    exact ⟨_, by first | rfl | (simp [errW_none, errW_some] <;> rfl) | (simp [*, errW_none, errW_some] <;> rfl), by first | exact Kd.R_nil _ _ _ _ _ | exact Kd.N_nil _ _ _ _ _ | exact Kd.V_nil _ _ _ _ _ | exact Kd.Q_nil _ _ _ _ _ | exact Kd.S_nil _ _ _ _ _, by repeat (first | (with_reducible first | exact HB.out | apply below_alloc | apply pw_below_drewN | apply below_drew1 | refine below_set ?_ GE34001.out | refine below_set ?_ GE34002.out) | exact HB.out)⟩
   ·replace c26 := Bool.eq_false_iff.mpr c26
    subst c26
    have H1 : ((impl_freeTies.f kj3 l0_0 l0_1 a0_2).bind fun t34005 => (impl_TimesFor.l0 kj3 l2 t34005 ([] : List Int) (l0_0.length : Int) 0 l0_0 l0_1 a0_2 l1_0 l1_1)) = some (r1, r2) := by rw [if_neg (show ¬ (false = true) by decide)] at H; exact H
    clear H
    have H := H1
    clear H1
    replace H := Option.bind_eq_some_iff.mp H
    obtain ⟨t34005, A270, H⟩ := H
    replace H : (impl_TimesFor.l0 kj3 l2 t34005 ([] : List Int) (l0_0.length : Int) 0 l0_0 l0_1 a0_2 l1_0 l1_1) = some (r1, r2) := H
    have A27 := Aside0.mk A270; clear A270
    have H' := Aside0.mk H
    clear H
    have hnb28 := NB34001_34002.out
    have hnc28 := NB34002_34001.out
    have hcz29_0 : wc.cell? ⟨gb34001, 0, none⟩ = some (.slice A0_0 l0_0.length c0_0) := (blk_cell BK34001.out 0).trans rfl
    have hcz29_1 : wc.cell? ⟨gb34001, 1, none⟩ = some (.slice A0_1 l0_1.length c0_1) := (blk_cell BK34001.out 1).trans rfl
    have hcz29_2 : wc.cell? ⟨gb34001, 2, none⟩ = some (.int .i64 a0_2) := (blk_cell BK34001.out 2).trans rfl
    go_wp2_with (first | ((with_reducible refine gate_callee (f := 80) rfl ?_); refine goesL_ (some 34) rfl rfl Try.func80 (by kernel_rfl) rfl #[.agg #[.slice A0_0 l0_0.length c0_0, .slice A0_1 l0_1.length c0_1, .int .i64 a0_2]] rfl (by (try simp only [List.map_toArray, List.map_cons, List.map_nil]); first | done | rfl | (simp only [List.length_drop, List.length_take]; rfl)) ?_; (with_reducible refine (impl_freeTies.calls kj3 _ _ l0_0 _ _ l0_1 a0_2 t34005 _ ?side1 ?side2 ?side3 ?side4 A27.out).mono ?_); (case side1 => exact (Kd.C_below HR0_0.out HB.out)); (case side2 => exact HC0_0.out); (case side3 => exact (Kd.C_below HR0_1.out HB.out)); (case side4 => exact HC0_1.out); rintro e w30 ⟨v34006, rfl, ho0, hb⟩; refine ⟨_, rfl, ?_⟩; have n0_ := Aside0.mk (Kd.R_lower ho0 (below_size (by exact HB.out))); have n1_ := Aside0.mk (blk_below (g := gb34001) (o := .cells #[.slice A0_0 l0_0.length c0_0, .slice A0_1 l0_1.length c0_1, .int .i64 a0_2] 35 (0, 0)) BK34001.out hb); have n2_ := Aside0.mk (blk_below (g := gb34002) (o := .cells #[.slice A1_0 l1_0.length c1_0, .slice A1_1 l1_1.length c1_1] 37 (0, 0)) BK34002.out hb); have n3_ := Aside0.mk (below_step (by exact HB.out) hb); clear BK34001; clear BK34002; clear HB; have HO34007 := n0_; have BK34001 := n1_; have BK34002 := n2_; have HB := n3_; clear n0_ n1_ n2_ n3_; have hcz31_0 : w30.cell? ⟨gb34001, 0, none⟩ = some (.slice A0_0 l0_0.length c0_0) := (blk_cell BK34001.out 0).trans rfl; have hcz31_1 : w30.cell? ⟨gb34001, 1, none⟩ = some (.slice A0_1 l0_1.length c0_1) := (blk_cell BK34001.out 1).trans rfl; have hcz31_2 : w30.cell? ⟨gb34001, 2, none⟩ = some (.int .i64 a0_2) := (blk_cell BK34001.out 2).trans rfl))
    go_loopg [9, 38] kj3 (fun kq v9 v38 w' => ∃ (x9_2 : List Int) (x38_2 : Int), v38 = .int .i64 x38_2 ∧ Aside0 (impl_TimesFor.l0 kq l2 t34005 x9_2 (l0_0.length : Int) x38_2 l0_0 l0_1 a0_2 l1_0 l1_1 = some (r1, r2)) ∧ Aside0 (kq ≤ kj3) ∧ Aside0 (Kd.R (Kd.int .i64) 3 w' w.heap.size (fun k_ => some k_ ≠ (v9 : Value).ownBlock) v34006 t34005) ∧ Aside0 (Kd.R (Kd.int .i64) 3 w' w.heap.size (fun k_ => some k_ ≠ (v34006 : Value).ownBlock) v9 x9_2) ∧ Aside0 (w'.heap[gb34001]? = some (.cells #[(.slice A0_0 l0_0.length c0_0), (.slice A0_1 l0_1.length c0_1), .int .i64 a0_2] 35 (0, 0))) ∧ Aside0 (w'.heap[gb34002]? = some (.cells #[(.slice A1_0 l1_0.length c1_0), (.slice A1_1 l1_1.length c1_1)] 37 (0, 0))) ∧ Aside0 (Below w.heap.size w w'))
    case atStart => exact ⟨(([] : List Int)), (0), (by first | rfl | (simp; done) | (simp [*]; done)), H', ⟨Nat.le_refl _⟩, ⟨by (with_reducible repeat (first | apply Kd.R_alloc | apply Kd.R_drewN | apply Kd.R_drew)); exact Kd.R_mono HO34007.out (fun _ hk => (by simp [Value.ownBlock]))⟩, ⟨by first | exact Kd.R_nil _ _ _ _ _ | exact Kd.N_nil _ _ _ _ _ | exact Kd.V_nil _ _ _ _ _ | exact Kd.Q_nil _ _ _ _ _ | exact Kd.S_nil _ _ _ _ _⟩, ⟨by (with_reducible repeat (first | refine blk_drewN ?_ _ | refine blk_drew ?_ | refine blk_alloc ?_ _)); exact BK34001.out⟩, ⟨by (with_reducible repeat (first | refine blk_drewN ?_ _ | refine blk_drew ?_ | refine blk_alloc ?_ _)); exact BK34002.out⟩, ⟨by repeat (first | (with_reducible first | exact HB.out | apply below_alloc | apply pw_below_drewN | apply below_drew1 | refine below_set ?_ GE34001.out | refine below_set ?_ GE34002.out) | exact HB.out)⟩⟩
    case round =>
     clear H'
     try clear c1
     try clear c2
     try clear p2
     try clear c3
     try clear c8
     try clear c9
     try clear c9b0
     try clear c9b1
     try clear c9b2
     try clear c11
     try clear c17
     try clear c20
     try clear c22
     try clear c26
     try clear c28
     try clear p2
     obtain ⟨x9_2, x38_2, rfl, HA, HK2, HO_8, HO_9, BK34001, BK34002, HB⟩ := hrel
     cases gk with
     | zero => exact absurd HA.out (by simp [impl_TimesFor.l0])
     | succ k2 =>
      have H := HA.out
      clear HA
      simp only [impl_TimesFor.l0] at H
      by_cases c32 : x38_2 < (l0_0.length : Int)
      ·rw [if_pos c32] at H
       have c32b0 : decide (x38_2 < (l0_0.length : Int)) = true := decide_eq_true c32
       clear c32
       replace H := Option.bind_eq_some_iff.mp H
       obtain ⟨⟨t34008, t34009⟩, A330, H⟩ := H
       replace H : (if 0 ≤ t34008 then (if t34008 < (l2.length : Int) then (impl_TimesFor.l1 k2 l2 t34005 x9_2 (rd l2 t34008) (l0_0.length : Int) x38_2 t34009 (t34009.length : Int) 0 l0_0 l0_1 a0_2 l1_0 l1_1) else (none)) else (none)) = some (r1, r2) := H
       have A33 := Aside0.mk A330; clear A330
       by_cases c34 : 0 ≤ t34008
       ·rw [if_pos c34] at H
        have c34b0 : decide (0 ≤ t34008) = true := decide_eq_true c34
        clear c34
        by_cases c35 : t34008 < (l2.length : Int)
        ·rw [if_pos c35] at H
         have c35b0 : decide (t34008 < (l2.length : Int)) = true := decide_eq_true c35
         clear c35
         have H' := Aside0.mk H
         clear H
         have hnb36 := NB34001_34002.out
         have hnc36 := NB34002_34001.out
         have hcz37_0 : wr.cell? ⟨gb34001, 0, none⟩ = some (.slice A0_0 l0_0.length c0_0) := (blk_cell BK34001.out 0).trans rfl
         have hcz37_1 : wr.cell? ⟨gb34001, 1, none⟩ = some (.slice A0_1 l0_1.length c0_1) := (blk_cell BK34001.out 1).trans rfl
         have hcz37_2 : wr.cell? ⟨gb34001, 2, none⟩ = some (.int .i64 a0_2) := (blk_cell BK34001.out 2).trans rfl
         go_wp2_with (first | ((with_reducible refine gate_callee (f := 88) rfl ?_); refine goesL_ (some 44) rfl rfl Try.func88 (by kernel_rfl) rfl #[.agg #[.slice A0_0 l0_0.length c0_0, .slice A0_1 l0_1.length c0_1, .int .i64 a0_2], .int .i64 x38_2] rfl (by (try simp only [List.map_toArray, List.map_cons, List.map_nil]); first | done | rfl | (simp only [List.length_drop, List.length_take]; rfl)) ?_; (with_reducible refine (impl_chainOf.calls k2 _ _ l0_0 _ _ l0_1 a0_2 x38_2 t34008 t34009 _ ?side1 ?side2 ?side3 ?side4 A33.out).mono ?_); (case side1 => exact (Kd.C_below HR0_0.out HB.out)); (case side2 => exact HC0_0.out); (case side3 => exact (Kd.C_below HR0_1.out HB.out)); (case side4 => exact HC0_1.out); rintro e w38 ⟨v34010, rfl, ho0, hb⟩; refine ⟨_, rfl, ?_⟩; have n0_ := Aside0.mk (Kd.R_elder' (by exact HO_8.out) (Kd.R_base ho0) hb); have n1_ := Aside0.mk (Kd.R_elder' (by exact HO_9.out) (Kd.R_base ho0) hb); have n2_ := Aside0.mk (Kd.R_lower (Kd.R_new' (Kd.R_new' ho0 (Kd.R_lt (by exact HO_8.out))) (Kd.R_lt (by exact HO_9.out))) (below_size (by exact HB.out))); have n3_ := Aside0.mk (blk_below (g := gb34001) (o := .cells #[.slice A0_0 l0_0.length c0_0, .slice A0_1 l0_1.length c0_1, .int .i64 a0_2] 35 (0, 0)) BK34001.out hb); have n4_ := Aside0.mk (blk_below (g := gb34002) (o := .cells #[.slice A1_0 l1_0.length c1_0, .slice A1_1 l1_1.length c1_1] 37 (0, 0)) BK34002.out hb); have n5_ := Aside0.mk (below_step (by exact HB.out) hb); clear HO_8; clear HO_9; clear BK34001; clear BK34002; clear HB; have HO_8 := n0_; have HO_9 := n1_; have HO34011 := n2_; have BK34001 := n3_; have BK34002 := n4_; have HB := n5_; clear n0_ n1_ n2_ n3_ n4_ n5_; have p34012 : 0 ≤ (t34008 : Int) := of_decide_eq_true (by with_reducible assumption); have q34012 : t34008 < (l2.length : Int) := of_decide_eq_true (by with_reducible assumption); obtain ⟨ad34012, e34012, hx34012_0⟩ := Kd.at_int HR2.out t34008 p34012 q34012; cases e34012; replace hx34012_0 := (HB.out.cell (World.block_lt_of_cell? w _ hx34012_0)).trans hx34012_0; replace p34012 := eq_true p34012; replace q34012 := eq_true q34012; obtain ⟨Ao39, co39, eo39⟩ := Kd.R_slice HO34011.out; subst eo39))
         go_loopg [13, 53] k2 (fun kq v13 v53 w' => ∃ (x13_3 : Int) (x53_3 : Int), v13 = .int .i64 x13_3 ∧ v53 = .int .i64 x53_3 ∧ Aside0 (impl_TimesFor.l1 kq l2 t34005 x9_2 x13_3 (l0_0.length : Int) x38_2 t34009 (t34009.length : Int) x53_3 l0_0 l0_1 a0_2 l1_0 l1_1 = some (r1, r2)) ∧ Aside0 (kq ≤ k2) ∧ Aside0 (Kd.R (Kd.int .i64) 3 w' w.heap.size (fun k_ => some k_ ≠ (u9 : Value).ownBlock ∧ some k_ ≠ ((.slice Ao39 t34009.length co39) : Value).ownBlock) v34006 t34005) ∧ Aside0 (Kd.R (Kd.int .i64) 3 w' w.heap.size (fun k_ => some k_ ≠ (v34006 : Value).ownBlock ∧ some k_ ≠ ((.slice Ao39 t34009.length co39) : Value).ownBlock) u9 x9_2) ∧ Aside0 (Kd.R (Kd.int .i64) 3 w' w.heap.size (fun k_ => some k_ ≠ (v34006 : Value).ownBlock ∧ some k_ ≠ (u9 : Value).ownBlock) (.slice Ao39 t34009.length co39) t34009) ∧ Aside0 (w'.heap[gb34001]? = some (.cells #[(.slice A0_0 l0_0.length c0_0), (.slice A0_1 l0_1.length c0_1), .int .i64 a0_2] 35 (0, 0))) ∧ Aside0 (w'.heap[gb34002]? = some (.cells #[(.slice A1_0 l1_0.length c1_0), (.slice A1_1 l1_1.length c1_1)] 37 (0, 0))) ∧ Aside0 (Below w.heap.size w w'))
         case atStart => exact ⟨(rd l2 t34008), (0), (by first | rfl | (simp; done) | (simp [*]; done)), (by first | rfl | (simp; done) | (simp [*]; done)), H', ⟨Nat.le_refl _⟩, ⟨by (with_reducible repeat (first | apply Kd.R_alloc | apply Kd.R_drewN | apply Kd.R_drew)); exact HO_8.out⟩, ⟨by (with_reducible repeat (first | apply Kd.R_alloc | apply Kd.R_drewN | apply Kd.R_drew)); exact HO_9.out⟩, ⟨by (with_reducible repeat (first | apply Kd.R_alloc | apply Kd.R_drewN | apply Kd.R_drew)); exact Kd.R_mono HO34011.out (fun _ hk => ⟨hk.1.2, hk.2⟩)⟩, ⟨by (with_reducible repeat (first | refine blk_drewN ?_ _ | refine blk_drew ?_ | refine blk_alloc ?_ _)); exact BK34001.out⟩, ⟨by (with_reducible repeat (first | refine blk_drewN ?_ _ | refine blk_drew ?_ | refine blk_alloc ?_ _)); exact BK34002.out⟩, ⟨by repeat (first | (with_reducible first | exact HB.out | apply below_alloc | apply pw_below_drewN | apply below_drew1 | refine below_set ?_ GE34001.out | refine below_set ?_ GE34002.out) | exact HB.out)⟩⟩
         case round =>
          clear H'
          try clear c1
          try clear c2
          try clear p2
          try clear c3
          try clear p3
          try clear q3
          try clear c8
          try clear c9
          try clear c9b0
          try clear c9b1
          try clear c9b2
          try clear c11
          try clear c17
          try clear c20
          try clear c22
          try clear c26
          try clear c28
          try clear c32
          try clear c32b0
          try clear c34
          try clear c34b0
          try clear p34
          try clear q34
          try clear c35
          try clear c35b0
          try clear c36
          try clear p2
          try clear p34012
          try clear q34012
          obtain ⟨x13_3, x53_3, rfl, rfl, HA, HK3, HO_8, HO_9, HO_51, BK34001, BK34002, HB⟩ := hrel
          cases gk with
          | zero => exact absurd HA.out (by simp [impl_TimesFor.l1])
          | succ k3 =>
           have H := HA.out
           clear HA
           simp only [impl_TimesFor.l1] at H
           by_cases c40 : x53_3 < (t34009.length : Int)
           ·rw [if_pos c40] at H
            have c40b0 : decide (x53_3 < (t34009.length : Int)) = true := decide_eq_true c40
            clear c40
            by_cases c41 : 0 ≤ x53_3
            ·rw [if_pos c41] at H
             have c41b0 : decide (0 ≤ x53_3) = true := decide_eq_true c41
             clear c41
             by_cases c42 : x53_3 < (t34009.length : Int)
             ·rw [if_pos c42] at H
              have c42b0 : decide (x53_3 < (t34009.length : Int)) = true := decide_eq_true c42
              clear c42
              replace H := Option.bind_eq_some_iff.mp H
              obtain ⟨t34014, A430, H⟩ := H
              replace H : (if 0 ≤ t34014 then (if t34014 < (l1_0.length : Int) then (impl_TimesFor.l1 k3 l2 t34005 x9_2 (wrap64 (x13_3 + (rd l1_0 t34014))) (l0_0.length : Int) x38_2 t34009 (t34009.length : Int) (wrap64 (x53_3 + 1)) l0_0 l0_1 a0_2 l1_0 l1_1) else (none)) else (none)) = some (r1, r2) := H
              have A43 := Aside0.mk A430; clear A430
              by_cases c44 : 0 ≤ t34014
              ·rw [if_pos c44] at H
               have c44b0 : decide (0 ≤ t34014) = true := decide_eq_true c44
               clear c44
               by_cases c45 : t34014 < (l1_0.length : Int)
               ·rw [if_pos c45] at H
                have c45b0 : decide (t34014 < (l1_0.length : Int)) = true := decide_eq_true c45
                clear c45
                have H' := Aside0.mk H
                clear H
                have p34013 : 0 ≤ (x53_3 : Int) := of_decide_eq_true (by with_reducible assumption)
                have q34013 : x53_3 < (t34009.length : Int) := of_decide_eq_true (by with_reducible assumption)
                obtain ⟨ad34013, e34013, hx34013_0⟩ := Kd.at_int (Kd.R_reads' HO_51.out).2.2 x53_3 p34013 q34013
                cases e34013
                replace p34013 := eq_true p34013
                replace q34013 := eq_true q34013
                try go_wp2
                have n0_ := Aside0.mk (Kd.R_drew HO_8.out)
                have n1_ := Aside0.mk (Kd.R_drew HO_9.out)
                have n2_ := Aside0.mk (Kd.R_drew HO_51.out)
                have n3_ := Aside0.mk (blk_drew BK34001.out)
                have n4_ := Aside0.mk (blk_drew BK34002.out)
                have n5_ := Aside0.mk (below_drew1 HB.out)
                clear HO_8 HO_9 HO_51 BK34001 BK34002 HB; have HO_8 := n0_; have HO_9 := n1_; have HO_51 := n2_; have BK34001 := n3_; have BK34002 := n4_; have HB := n5_; clear n0_ n1_ n2_ n3_ n4_ n5_
                obtain ⟨Ao47, co47, eo47⟩ := Kd.R_slice HO_8.out
                (first | subst eo47 | (injection eo47 with f1_ f2_ f3_; have f4_ := f1_.symm; have f5_ := f3_.symm; clear f1_ f2_ f3_; subst f4_; subst f5_))
                have p34015 : 0 ≤ (t34014 : Int) := of_decide_eq_true (by with_reducible assumption)
                have q34015 : t34014 < (l1_0.length : Int) := of_decide_eq_true (by with_reducible assumption)
                obtain ⟨ad34015, e34015, hx34015_0⟩ := Kd.at_int HR1_0.out t34014 p34015 q34015
                have hw34015_0 := hx34015_0
                cases e34015
                replace hx34015_0 := (HB.out.cell (World.block_lt_of_cell? w _ hx34015_0)).trans hx34015_0
                replace p34015 := eq_true p34015
                replace q34015 := eq_true q34015
                refine start_ (n := 10) (S := fun w' => w'.cell? ⟨gb34002, 0, none⟩ = some (.slice (some ad34015) l1_0.length c1_0) ∧ w'.cell? ⟨gb34002, 1, none⟩ = some (.slice A1_1 l1_1.length c1_1) ∧ w'.cell? (ad34015.add (t34014).toNat) = some (.int .i64 (rd l1_0 t34014))) (ds := []) #[false, false, false, false, false, false, false, false, false, false] (by kernel_rfl) rfl rfl ⟨(blk_cell BK34002.out 0).trans rfl, (blk_cell BK34002.out 1).trans rfl, ((HB.out.cell (World.block_lt_of_cell? w _ hw34015_0)).trans hw34015_0)⟩ (fun hHeld => ?_); refine with_tabW impl_TimesFor.tab13 impl_TimesFor.bits13 (fun HT_ HW_ => ?_)
                generalize wr.drew = w46 at HO_8 HO_9 HO_51 BK34001 BK34002 HB hx34015_0 hHeld ⊢
                refine pure_ (i := 0) (N := some 57) (v := ?_) (a' := ?_) #[true, false, false, false, false, false, false, false, false, false] rfl rfl (any_of HT_.out (by kernel_rfl)) (fun _ _ _ h => h) (Or.inl ⟨by rfl, ?_⟩) ?_ ?_
                rotate_left
                ·intro w'
                 go_simp
                 with_reducible rfl
                rotate_left
                ·simp only [Act.put, List.setIfInBounds_toArray, List.set_cons_zero, List.set_cons_succ, i64_w, i32_w]
                 rfl
                refine pure_ (i := 1) (N := some 58) (v := ?_) (a' := ?_) #[true, true, false, false, false, false, false, false, false, false] rfl rfl (any_of HT_.out (by kernel_rfl)) (fun _ _ _ h => h) (Or.inl ⟨by rfl, ?_⟩) ?_ ?_
                rotate_left
                ·intro w'
                 go_simp
                 with_reducible rfl
                rotate_left
                ·simp only [Act.put, List.setIfInBounds_toArray, List.set_cons_zero, List.set_cons_succ, i64_w, i32_w]
                 rfl
                refine pure_ (i := 3) (N := some 60) (v := ?_) (a' := ?_) #[true, true, false, true, false, false, false, false, false, false] rfl rfl (any_of HT_.out (by kernel_rfl)) (fun _ _ _ h => h) (Or.inl ⟨by rfl, ?_⟩) ?_ ?_
                rotate_left
                ·intro w'
                 go_simp
                 with_reducible rfl
                rotate_left
                ·simp only [Act.put, List.setIfInBounds_toArray, List.set_cons_zero, List.set_cons_succ, i64_w, i32_w]
                 rfl
                refine pure_ (i := 4) (N := some 61) (v := ?_) (a' := ?_) #[true, true, false, true, true, false, false, false, false, false] rfl rfl (any_of HT_.out (by kernel_rfl)) (fun _ _ _ h => h) (Or.inl ⟨by rfl, ?_⟩) ?_ ?_
                rotate_left
                ·intro w'
                 go_simp
                 with_reducible rfl
                rotate_left
                ·simp only [Act.put, List.setIfInBounds_toArray, List.set_cons_zero, List.set_cons_succ, i64_w, i32_w]
                 rfl
                refine take_ (i := 2) (N := some 59) (v := ?_) (a' := ?_) #[true, true, true, true, true, false, false, false, false, false] rfl rfl (take_ofW HT_.out HW_.out (by kernel_rfl)) (fun _ _ _ h => h) (Or.inl ⟨by rfl, ?_⟩) hHeld ?_ ?_
                rotate_left
                ·rintro w' ⟨s0, s1, s2⟩
                 go_simp
                 with_reducible rfl
                rotate_left
                ·simp only [Act.put, List.setIfInBounds_toArray, List.set_cons_zero, List.set_cons_succ, i64_w, i32_w]
                 rfl
                refine one_ (i := 5) (N := some 62) #[true, true, true, true, true, true, false, false, false, false] rfl rfl (one_of HT_.out (by kernel_rfl)) (by decide) (fun K hK => ?_)
                refine goes_ Try.func89 (by kernel_rfl) rfl #[.slice Ao47 t34005.length co47, .int .i64 (rd t34009 x53_3)] (by rfl) rfl rfl (by (try simp only [List.map_toArray, List.map_cons, List.map_nil]); first | done | rfl | (simp only [List.length_drop, List.length_take]; rfl)) ?_
                with_reducible refine (slices_Index_int_int.calls _ _ t34005 (rd t34009 x53_3) t34014 _ ?side1 ?side2 A43.out).mono ?_
                (case side1 => repeat (first | exact (Kd.R_reads' HO_8.out).2.2 | (with_reducible refine Kd.C_alloc ?_ _) | (with_reducible refine Kd.C_drewN ?_ _) | (with_reducible refine Kd.C_drew ?_)))
                (case side2 => exact (Kd.R_reads' HO_8.out).2.1)
                rintro e w48 ⟨rfl, hb⟩
                refine ⟨_, rfl, ?_⟩
                have n0_ := Aside0.mk (Kd.R_below (by exact HO_8.out) hb)
                have n1_ := Aside0.mk (Kd.R_below (by exact HO_9.out) hb)
                have n2_ := Aside0.mk (Kd.R_below (by exact HO_51.out) hb)
                have n3_ := Aside0.mk (blk_below (g := gb34001) (o := .cells #[.slice A0_0 l0_0.length c0_0, .slice A0_1 l0_1.length c0_1, .int .i64 a0_2] 35 (0, 0)) BK34001.out hb)
                have n4_ := Aside0.mk (blk_below (g := gb34002) (o := .cells #[.slice (some ad34015) l1_0.length c1_0, .slice A1_1 l1_1.length c1_1] 37 (0, 0)) BK34002.out hb)
                have n5_ := Aside0.mk (below_step (by exact HB.out) hb)
                clear HO_8 HO_9 HO_51 BK34001 BK34002 HB; have HO_8 := n0_; have HO_9 := n1_; have HO_51 := n2_; have BK34001 := n3_; have BK34002 := n4_; have HB := n5_; clear n0_ n1_ n2_ n3_ n4_ n5_
                (try clear hb)
                (try clear hb2)
                (try clear hk)
                (try clear hi)
                refine hK.out _ _ ⟨(blk_cell BK34002.out 0).trans rfl, (blk_cell BK34002.out 1).trans rfl, ((HB.out.cell (World.block_lt_of_cell? w _ hw34015_0)).trans hw34015_0)⟩ (fun hHeld => ?_)
                clear hK K
                refine norm_ (a' := ?_) ?_ ?_
                rotate_left
                ·show Act.put _ (some 62) _ = _
                 simp only [Act.put, List.setIfInBounds_toArray, List.set_cons_zero, List.set_cons_succ, i64_w, i32_w]
                 rfl
                refine pure_ (i := 6) (N := some 63) (v := ?_) (a' := ?_) #[true, true, true, true, true, true, true, false, false, false] rfl rfl (any_of HT_.out (by kernel_rfl)) (fun _ _ _ h => h) (Or.inl ⟨by rfl, ?_⟩) ?_ ?_
                rotate_left
                ·intro w'
                 go_simp
                 with_reducible rfl
                rotate_left
                ·simp only [Act.put, List.setIfInBounds_toArray, List.set_cons_zero, List.set_cons_succ, i64_w, i32_w]
                 rfl
                refine take_ (i := 7) (N := some 64) (v := ?_) (a' := ?_) #[true, true, true, true, true, true, true, true, false, false] rfl rfl (take_ofW HT_.out HW_.out (by kernel_rfl)) (fun _ _ _ h => h) (Or.inl ⟨by rfl, ?_⟩) hHeld ?_ ?_
                rotate_left
                ·rintro w' ⟨s0, s1, s2⟩
                 go_simp
                 with_reducible rfl
                rotate_left
                ·simp only [Act.put, List.setIfInBounds_toArray, List.set_cons_zero, List.set_cons_succ, i64_w, i32_w]
                 rfl
                refine pure_ (i := 8) (N := some 65) (v := ?_) (a' := ?_) #[true, true, true, true, true, true, true, true, true, false] rfl rfl (any_of HT_.out (by kernel_rfl)) (fun _ _ _ h => h) (Or.inl ⟨by rfl, ?_⟩) ?_ ?_
                rotate_left
                ·intro w'
                 go_simp
                 with_reducible rfl
                rotate_left
                ·simp only [Act.put, List.setIfInBounds_toArray, List.set_cons_zero, List.set_cons_succ, i64_w, i32_w]
                 rfl
                refine pure_ (i := 9) (N := some 13) (v := ?_) (a' := ?_) #[true, true, true, true, true, true, true, true, true, true] rfl rfl (any_of HT_.out (by kernel_rfl)) (fun _ _ _ h => h) (Or.inl ⟨by rfl, ?_⟩) ?_ ?_
                rotate_left
                ·intro w'
                 go_simp
                 with_reducible rfl
                rotate_left
                ·simp only [Act.put, List.setIfInBounds_toArray, List.set_cons_zero, List.set_cons_succ, i64_w, i32_w]
                 rfl
                refine done_ (done_of HT_.out (by kernel_rfl)) ?_
                try go_wp2
                go_roundg k3
                case measure => have := HJ3.out; have := HK2.out; have := HK3.out; omega
                case rel => exact ⟨(wrap64 (x13_3 + (rd l1_0 t34014))), (wrap64 (x53_3 + 1)), (by first | rfl | (simp; done) | (simp [*]; done)), (by first | rfl | (simp; done) | (simp [*]; done)), H', ⟨by have := HJ3.out; have := HK2.out; have := HK3.out; omega⟩, ⟨by (with_reducible repeat (first | apply Kd.R_alloc | apply Kd.R_drewN | apply Kd.R_drew)); exact HO_8.out⟩, ⟨by (with_reducible repeat (first | apply Kd.R_alloc | apply Kd.R_drewN | apply Kd.R_drew)); exact HO_9.out⟩, ⟨by (with_reducible repeat (first | apply Kd.R_alloc | apply Kd.R_drewN | apply Kd.R_drew)); exact HO_51.out⟩, ⟨by (with_reducible repeat (first | refine blk_drewN ?_ _ | refine blk_drew ?_ | refine blk_alloc ?_ _)); exact BK34001.out⟩, ⟨by (with_reducible repeat (first | refine blk_drewN ?_ _ | refine blk_drew ?_ | refine blk_alloc ?_ _)); exact BK34002.out⟩, ⟨by repeat (first | (with_reducible first | exact HB.out | apply below_alloc | apply pw_below_drewN | apply below_drew1 | refine below_set ?_ GE34001.out | refine below_set ?_ GE34002.out) | exact HB.out)⟩⟩
               ·rw [if_neg c45] at H
                exact absurd H (by simp)
              ·rw [if_neg c44] at H
               exact absurd H (by simp)
             ·rw [if_neg c42] at H
              exact absurd H (by simp)
            ·rw [if_neg c41] at H
             exact absurd H (by simp)
           ·rw [if_neg c40] at H
            have c40b0 : decide (x53_3 < (t34009.length : Int)) = false := decide_eq_false c40
            clear c40
            by_cases c49 : x9_2.length < 17592186044416
            ·rw [if_pos c49] at H
             have LMc49 := Aside0.mk c49; clear c49
             obtain ⟨y34016, hy34016⟩ : ∃ y_ : List Int, y_ = (x9_2 ++ [x13_3]) := ⟨_, rfl⟩
             replace H : (impl_TimesFor.l0 k3 l2 t34005 y34016 (l0_0.length : Int) (wrap64 (x38_2 + 1)) l0_0 l0_1 a0_2 l1_0 l1_1) = some (r1, r2) := by first | (rw [hy34016]; with_reducible exact H) | (have H2_ := (Option.bind_some _ _).symm.trans H; rw [hy34016]; with_reducible exact H2_) | (have H2_ := (Option.bind_some _ _).symm.trans H; with_reducible exact H2_) | with_reducible exact H | (rw [hy34016]; exact H) | exact H
             have Ny34016 := Aside0.mk hy34016; clear hy34016
             have H' := Aside0.mk H
             clear H
             go_wp2_with (first | ((with_reducible refine gate_builtin (b := .append) (xs := #[.tmp 67, .tmp 69]) rfl ?_); at_builtin; refine Kd.R_append (Kd.int .i64) (w0 := w) w.heap.size rfl (.tmp 67) (.tmp 69) 26 3 (.int .i64 0) 8 rfl Try.underlying26 info3 rfl (by decide) (by omega) u9 x9_2 x13_3 [.int .i64 x13_3] (fun k_ => some k_ ≠ (v34006 : Value).ownBlock ∧ some k_ ≠ (.slice Ao39 t34009.length co39 : Value).ownBlock) (fun _ => False) rfl rfl ?aP (fun _ hk => hk.elim) ?aF ?aO ?aB ?aS ?aL ?_; (case aP => exact rfl); (case aB => exact (by exact HB.out)); (case aF => exact (fun k_ hk => ⟨Kd.fresh' (Kd.R_lt (by exact HO_8.out)) k_ hk, Kd.fresh' (Kd.R_lt (by exact HO_51.out)) k_ hk⟩)); (case aO => exact (by exact HO_9.out)); (case aS => exact (below_size (by exact HB.out))); (case aL => have := LMc49.out; omega); intro v34017 w50 ho hb hg hat; rw [← Ny34016.out] at ho; have n0_ := Aside0.mk (Kd.R_after (ok := (fun k_ => some k_ ≠ (.slice Ao39 t34009.length co39 : Value).ownBlock)) (by (with_reducible repeat (first | apply Kd.R_alloc | apply Kd.R_drewN | apply Kd.R_drew)); exact Kd.R_mono HO_8.out (fun _ hk => ⟨hk.2, hk.1⟩)) hg hat); have n1_ := Aside0.mk (Kd.R_after (ok := (fun k_ => some k_ ≠ (v34006 : Value).ownBlock)) (by exact HO_51.out) hg hat); have n2_ := Aside0.mk (blk_grown (g := gb34001) (o := .cells #[.slice A0_0 l0_0.length c0_0, .slice A0_1 l0_1.length c0_1, .int .i64 a0_2] 35 (0, 0)) BK34001.out hg (Kd.R_ne HO_9.out BK34001.out (by decide))); have n3_ := Aside0.mk (blk_grown (g := gb34002) (o := .cells #[.slice A1_0 l1_0.length c1_0, .slice A1_1 l1_1.length c1_1] 37 (0, 0)) BK34002.out hg (Kd.R_ne HO_9.out BK34002.out (by decide))); have n4_ := Aside0.mk (hb); have n5_ := Aside0.mk (ho); clear HO_8; clear HO_51; clear BK34001; clear BK34002; clear HB; clear HO_9; have HO_8 := n0_; have HO_51 := n1_; have BK34001 := n2_; have BK34002 := n3_; have HB := n4_; have HO34018 := n5_; clear n0_ n1_ n2_ n3_ n4_ n5_; clear ho hb hg hat))
             go_roundg k3
             case measure => have := HJ3.out; have := HK2.out; have := HK3.out; omega
             case rel => exact ⟨(y34016), (wrap64 (x38_2 + 1)), (by first | rfl | (simp; done) | (simp [*]; done)), H', ⟨by have := HJ3.out; have := HK2.out; have := HK3.out; omega⟩, ⟨by (with_reducible repeat (first | apply Kd.R_alloc | apply Kd.R_drewN | apply Kd.R_drew)); exact Kd.R_mono HO_8.out (fun _ hk => hk.2)⟩, ⟨by (with_reducible repeat (first | apply Kd.R_alloc | apply Kd.R_drewN | apply Kd.R_drew)); exact Kd.R_mono HO34018.out (fun _ hk => hk.1)⟩, ⟨by (with_reducible repeat (first | refine blk_drewN ?_ _ | refine blk_drew ?_ | refine blk_alloc ?_ _)); exact BK34001.out⟩, ⟨by (with_reducible repeat (first | refine blk_drewN ?_ _ | refine blk_drew ?_ | refine blk_alloc ?_ _)); exact BK34002.out⟩, ⟨by repeat (first | (with_reducible first | exact HB.out | apply below_alloc | apply pw_below_drewN | apply below_drew1 | refine below_set ?_ GE34001.out | refine below_set ?_ GE34002.out) | exact HB.out)⟩⟩
            ·rw [if_neg c49] at H
             exact absurd H (by simp)
        ·rw [if_neg c35] at H
         exact absurd H (by simp)
       ·rw [if_neg c34] at H
        exact absurd H (by simp)
      ·rw [if_neg c32] at H
       have c32b0 : decide (x38_2 < (l0_0.length : Int)) = false := decide_eq_false c32
       clear c32
       simp only [Option.some.injEq, Prod.mk.injEq] at H
       obtain ⟨rfl, rfl⟩ := H
       go_wp2
       go_ret2
       exact ⟨_, by first | rfl | (simp [errW_none, errW_some] <;> rfl) | (simp [*, errW_none, errW_some] <;> rfl), by (with_reducible repeat (first | apply Kd.R_alloc | apply Kd.R_drewN | apply Kd.R_drew)); exact Kd.R_mono HO_9.out (fun _ hk => trivial), by repeat (first | (with_reducible first | exact HB.out | apply below_alloc | apply pw_below_drewN | apply below_drew1 | refine below_set ?_ GE34001.out | refine below_set ?_ GE34002.out) | exact HB.out)⟩

theorem impl_TimesFor.c (k : Nat) (A0_0 : Option Addr) (c0_0 : Nat) (l0_0 : List (S116)) (A0_1 : Option Addr) (c0_1 : Nat) (l0_1 : List (S90)) (a0_2 : Int) (A1_0 : Option Addr) (c1_0 : Nat) (l1_0 : List Int) (A1_1 : Option Addr) (c1_1 : Nat) (l1_1 : List Int) (A2 : Option Addr) (c2 : Nat) (l2 : List Int) (r1 : List Int) (r2 : Bool) (w : World) (hr0_0 : Kd.C k116 w A0_0 l0_0.length l0_0) (hc0_0 : l0_0.length ≤ c0_0) (hr0_1 : Kd.C k90 w A0_1 l0_1.length l0_1) (hc0_1 : l0_1.length ≤ c0_1) (hr1_0 : Kd.C (Kd.int .i64) w A1_0 l1_0.length l1_0) (hc1_0 : l1_0.length ≤ c1_0) (hr1_1 : Kd.C (Kd.int .i64) w A1_1 l1_1.length l1_1) (hc1_1 : l1_1.length ≤ c1_1) (hr2 : Kd.C (Kd.int .i64) w A2 l2.length l2) (hc2 : l2.length ≤ c2) (h : impl_TimesFor.f k l0_0 l0_1 a0_2 l1_0 l1_1 l2 = some (r1, r2)) :
  Calls Try.prog 34 #[.agg #[.slice A0_0 l0_0.length c0_0, .slice A0_1 l0_1.length c0_1, .int .i64 a0_2], .agg #[.slice A1_0 l1_0.length c1_0, .slice A1_1 l1_1.length c1_1], .slice A2 l2.length c2] w fun e w' => ∃ A0_ c0_, e = .returned (.tuple #[.slice A0_ r1.length c0_, .bool r2]) ∧ Aside0 (r1.length ≤ c0_ ∧ Kd.C (Kd.int .i64) w' A0_ r1.length r1) ∧ Below w.heap.size w w' :=
 (impl_TimesFor.calls k A0_0 c0_0 l0_0 A0_1 c0_1 l0_1 a0_2 A1_0 c1_0 l1_0 A1_1 c1_1 l1_1 A2 c2 l2 r1 r2 w hr0_0 hc0_0 hr0_1 hc0_1 hr1_0 hc1_0 hr1_1 hc1_1 hr2 hc2 h).mono fun e w' ⟨v0_, he, q0_, hb⟩ => by
  obtain ⟨A0_, c0_, rfl, g0_⟩ := Kd.R_reads q0_
  exact ⟨A0_, c0_, he, ⟨g0_⟩, hb⟩

def spec_l12Base.l0 : Nat → Int → Int → Int → Int → List (S116) → List (S90) → Int → Option (Int × Int × Int × Bool)
 | 0, _, _, _, _, _, _, _ => none
 | k + 1, x1, x8, x9, x10, x108002000, x108002001, x108002002 => if x10 ≤ (x108002000.length : Int) then ((spec_l08Free.f k x108002000 x108002001 x108002002 x1).bind fun t108002 => (if t108002 < 0 then (some (x1, x8, x9, true)) else (if 0 ≤ t108002 then (if t108002 < (x108002001.length : Int) then (spec_l12Base.l0 k ((rd_T90 x108002001 t108002).f0) (wrap64 (x8 + ((rd_T90 x108002001 t108002).f2))) (wrap64 (x9 + ((rd_T90 x108002001 t108002).f3))) (wrap64 (x10 + 1)) x108002000 x108002001 x108002002) else (none)) else (none)))) else (some ((-1), 0, 0, false))
def spec_l12Base.f (k : Nat) (l0_0 : List (S116)) (l0_1 : List (S90)) (a0_2 : Int) (a1 : Int) : Option (Int × Int × Int × Bool) := spec_l12Base.l0 k a1 0 0 0 l0_0 l0_1 a0_2
set_option maxHeartbeats 8000000 in
set_option maxRecDepth 100000 in
theorem spec_l12Base.calls (k : Nat) (A0_0 : Option Addr) (c0_0 : Nat) (l0_0 : List (S116)) (A0_1 : Option Addr) (c0_1 : Nat) (l0_1 : List (S90)) (a0_2 : Int) (a1 : Int) (r1 : Int) (r2 : Int) (r3 : Int) (r4 : Bool) (w : World) (hr0_0 : Kd.C k116 w A0_0 l0_0.length l0_0) (hc0_0 : l0_0.length ≤ c0_0) (hr0_1 : Kd.C k90 w A0_1 l0_1.length l0_1) (hc0_1 : l0_1.length ≤ c0_1) (h : spec_l12Base.f k l0_0 l0_1 a0_2 a1 = some (r1, r2, r3, r4)) :
  Calls Try.prog 108 #[.agg #[.slice A0_0 l0_0.length c0_0, .slice A0_1 l0_1.length c0_1, .int .i64 a0_2], .int .i64 a1] w fun e w' => e = .returned (.tuple #[.int .i64 r1, .int .i64 r2, .int .i64 r3, .bool r4]) ∧ Below w.heap.size w w' := by
 have hu35 := Try.underlying35
 have HR0_0 := Aside0.mk hr0_0; have HC0_0 := Aside0.mk hc0_0; clear hr0_0 hc0_0; have HR0_1 := Aside0.mk hr0_1; have HC0_1 := Aside0.mk hc0_1; clear hr0_1 hc0_1
 have HB := Aside0.mk (Below.refl w.heap.size w)
 have H : (spec_l12Base.l0 k a1 0 0 0 l0_0 l0_1 a0_2) = some (r1, r2, r3, r4) := h
 clear h
 have H' := Aside0.mk H
 clear H
 go_enter Try.func108, Try.ntmps108
 go_wp2_with (first | ((with_reducible refine gate_dst (N := 2) rfl ?_); refine box_event ?hg (N := 2) ?hd (cs := #[.slice A0_0 l0_0.length c0_0, .slice A0_1 l0_1.length c0_1, .int .i64 a0_2]) (t := 35) ?hr ?_; (case hd => rfl); (case hg => rfl); (case hr => first | (go_simp; done) | (go_simp; rfl)); intro gb108001 hg w3 hbox hb; have n0_ := Aside0.mk (below_step (by exact HB.out) hb); have n1_ := Aside0.mk (hbox); have n2_ := Aside0.mk ((by rw [hg]; exact (below_size (by exact HB.out)) : w.heap.size ≤ gb108001)); have n3_ := n2_; clear HB; have HB := n0_; have BK108001 := n1_; have GW108001 := n2_; have GE108001 := n3_; clear n0_ n1_ n2_ n3_; clear hb hbox hg))
 go_loopg [1, 8, 9, 10] k (fun kq v1 v8 v9 v10 w' => ∃ (x1_1 : Int) (x8_1 : Int) (x9_1 : Int) (x10_1 : Int), v1 = .int .i64 x1_1 ∧ v8 = .int .i64 x8_1 ∧ v9 = .int .i64 x9_1 ∧ v10 = .int .i64 x10_1 ∧ Aside0 (spec_l12Base.l0 kq x1_1 x8_1 x9_1 x10_1 l0_0 l0_1 a0_2 = some (r1, r2, r3, r4)) ∧ Aside0 (kq ≤ k) ∧ Aside0 (w'.heap[gb108001]? = some (.cells #[(.slice A0_0 l0_0.length c0_0), (.slice A0_1 l0_1.length c0_1), .int .i64 a0_2] 35 (0, 0))) ∧ Aside0 (Below w.heap.size w w'))
 case atStart => exact ⟨(a1), (0), (0), (0), (by first | rfl | (simp; done) | (simp [*]; done)), (by first | rfl | (simp; done) | (simp [*]; done)), (by first | rfl | (simp; done) | (simp [*]; done)), (by first | rfl | (simp; done) | (simp [*]; done)), H', ⟨Nat.le_refl _⟩, ⟨by (with_reducible repeat (first | refine blk_drewN ?_ _ | refine blk_drew ?_ | refine blk_alloc ?_ _)); exact BK108001.out⟩, ⟨by repeat (first | (with_reducible first | exact HB.out | apply below_alloc | apply pw_below_drewN | apply below_drew1 | refine below_set ?_ GE108001.out) | exact HB.out)⟩⟩
 case round =>
  clear H'
  try clear c1
  try clear p2
  obtain ⟨x1_1, x8_1, x9_1, x10_1, rfl, rfl, rfl, rfl, HA, HK1, BK108001, HB⟩ := hrel
  cases gk with
  | zero => exact absurd HA.out (by simp [spec_l12Base.l0])
  | succ k1 =>
   have H := HA.out
   clear HA
   simp only [spec_l12Base.l0] at H
   by_cases c4 : x10_1 ≤ (l0_0.length : Int)
   ·rw [if_pos c4] at H
    have c4b0 : decide (x10_1 ≤ (l0_0.length : Int)) = true := decide_eq_true c4
    clear c4
    replace H := Option.bind_eq_some_iff.mp H
    obtain ⟨t108002, A50, H⟩ := H
    replace H : (if t108002 < 0 then (some (x1_1, x8_1, x9_1, true)) else (if 0 ≤ t108002 then (if t108002 < (l0_1.length : Int) then (spec_l12Base.l0 k1 ((rd_T90 l0_1 t108002).f0) (wrap64 (x8_1 + ((rd_T90 l0_1 t108002).f2))) (wrap64 (x9_1 + ((rd_T90 l0_1 t108002).f3))) (wrap64 (x10_1 + 1)) l0_0 l0_1 a0_2) else (none)) else (none))) = some (r1, r2, r3, r4) := H
    have A5 := Aside0.mk A50; clear A50
    by_cases c6 : t108002 < 0
    ·rw [if_pos c6] at H
     have c6b0 : decide (t108002 < 0) = true := decide_eq_true c6
     clear c6
     simp only [Option.some.injEq, Prod.mk.injEq] at H
     obtain ⟨rfl, rfl, rfl, rfl⟩ := H
     have hcz7_0 : wr.cell? ⟨gb108001, 0, none⟩ = some (.slice A0_0 l0_0.length c0_0) := (blk_cell BK108001.out 0).trans rfl
     have hcz7_1 : wr.cell? ⟨gb108001, 1, none⟩ = some (.slice A0_1 l0_1.length c0_1) := (blk_cell BK108001.out 1).trans rfl
     have hcz7_2 : wr.cell? ⟨gb108001, 2, none⟩ = some (.int .i64 a0_2) := (blk_cell BK108001.out 2).trans rfl
     go_wp2_with (first | ((with_reducible refine gate_callee (f := 76) rfl ?_); refine goesL_ (some 21) rfl rfl Try.func76 (by kernel_rfl) rfl #[.agg #[.slice A0_0 l0_0.length c0_0, .slice A0_1 l0_1.length c0_1, .int .i64 a0_2], .int .i64 x1_1] rfl (by (try simp only [List.map_toArray, List.map_cons, List.map_nil]); first | done | rfl | (simp only [List.length_drop, List.length_take]; rfl)) ?_; (with_reducible refine (spec_l08Free.calls k1 _ _ l0_0 _ _ l0_1 a0_2 x1_1 t108002 _ ?side1 ?side2 ?side3 ?side4 A5.out).mono ?_); (case side1 => exact (Kd.C_below HR0_0.out HB.out)); (case side2 => exact HC0_0.out); (case side3 => exact (Kd.C_below HR0_1.out HB.out)); (case side4 => exact HC0_1.out); rintro e w8 ⟨rfl, hb⟩; refine ⟨_, rfl, ?_⟩; have n0_ := Aside0.mk (blk_below BK108001.out hb); have n1_ := Aside0.mk (below_step (by exact HB.out) hb); clear BK108001; clear HB; have BK108001 := n0_; have HB := n1_; clear n0_ n1_; (try clear hb); (try clear hb2); (try clear hk); (try clear hi)))
     refine bodyPost_ret (results_list (rs := [.tmp 4, .tmp 5, .tmp 6, .tmp 7]) rfl (by simp) (.tmp (.tmp (.tmp (.tmp .nil))))) rfl ?_
     exact ⟨by first | rfl | (simp [errW_none, errW_some] <;> rfl) | (simp [*, errW_none, errW_some] <;> rfl), by repeat (first | (with_reducible first | exact HB.out | apply below_alloc | apply pw_below_drewN | apply below_drew1 | refine below_set ?_ GE108001.out) | exact HB.out)⟩
    ·rw [if_neg c6] at H
     have c6b0 : decide (t108002 < 0) = false := decide_eq_false c6
     clear c6
     by_cases c9 : 0 ≤ t108002
     ·rw [if_pos c9] at H
      have c9b0 : decide (0 ≤ t108002) = true := decide_eq_true c9
      clear c9
      by_cases c10 : t108002 < (l0_1.length : Int)
      ·rw [if_pos c10] at H
       have c10b0 : decide (t108002 < (l0_1.length : Int)) = true := decide_eq_true c10
       clear c10
       have H' := Aside0.mk H
       clear H
       have hcz11_0 : wr.cell? ⟨gb108001, 0, none⟩ = some (.slice A0_0 l0_0.length c0_0) := (blk_cell BK108001.out 0).trans rfl
       have hcz11_1 : wr.cell? ⟨gb108001, 1, none⟩ = some (.slice A0_1 l0_1.length c0_1) := (blk_cell BK108001.out 1).trans rfl
       have hcz11_2 : wr.cell? ⟨gb108001, 2, none⟩ = some (.int .i64 a0_2) := (blk_cell BK108001.out 2).trans rfl
       go_wp2_with (first | ((with_reducible refine gate_callee (f := 76) rfl ?_); refine goesL_ (some 21) rfl rfl Try.func76 (by kernel_rfl) rfl #[.agg #[.slice A0_0 l0_0.length c0_0, .slice A0_1 l0_1.length c0_1, .int .i64 a0_2], .int .i64 x1_1] rfl (by (try simp only [List.map_toArray, List.map_cons, List.map_nil]); first | done | rfl | (simp only [List.length_drop, List.length_take]; rfl)) ?_; (with_reducible refine (spec_l08Free.calls k1 _ _ l0_0 _ _ l0_1 a0_2 x1_1 t108002 _ ?side1 ?side2 ?side3 ?side4 A5.out).mono ?_); (case side1 => exact (Kd.C_below HR0_0.out HB.out)); (case side2 => exact HC0_0.out); (case side3 => exact (Kd.C_below HR0_1.out HB.out)); (case side4 => exact HC0_1.out); rintro e w12 ⟨rfl, hb⟩; refine ⟨_, rfl, ?_⟩; have n0_ := Aside0.mk (blk_below BK108001.out hb); have n1_ := Aside0.mk (below_step (by exact HB.out) hb); clear BK108001; clear HB; have BK108001 := n0_; have HB := n1_; clear n0_ n1_; (try clear hb); (try clear hb2); (try clear hk); (try clear hi); have hcz13_0 : w12.cell? ⟨gb108001, 0, none⟩ = some (.slice A0_0 l0_0.length c0_0) := (blk_cell BK108001.out 0).trans rfl; have hcz13_1 : w12.cell? ⟨gb108001, 1, none⟩ = some (.slice A0_1 l0_1.length c0_1) := (blk_cell BK108001.out 1).trans rfl; have hcz13_2 : w12.cell? ⟨gb108001, 2, none⟩ = some (.int .i64 a0_2) := (blk_cell BK108001.out 2).trans rfl; have p108003 : 0 ≤ (t108002 : Int) := of_decide_eq_true (by with_reducible assumption); have q108003 : t108002 < (l0_1.length : Int) := of_decide_eq_true (by with_reducible assumption); obtain ⟨ad108003, e108003, hx108003_0, hx108003_1, hx108003_2, hx108003_3, hx108003_4⟩ := at_T90 HR0_1.out t108002 p108003 q108003; cases e108003; replace hx108003_0 := (HB.out.cell (World.block_lt_of_cell? w _ hx108003_0)).trans hx108003_0; replace hx108003_1 := (HB.out.cell (World.block_lt_of_cell? w _ hx108003_1)).trans hx108003_1; replace hx108003_2 := (HB.out.cell (World.block_lt_of_cell? w _ hx108003_2)).trans hx108003_2; replace hx108003_3 := (HB.out.cell (World.block_lt_of_cell? w _ hx108003_3)).trans hx108003_3; replace hx108003_4 := (HB.out.cell (World.block_lt_of_cell? w _ hx108003_4)).trans hx108003_4; replace p108003 := eq_true p108003; replace q108003 := eq_true q108003; have p108004 : 0 ≤ (t108002 : Int) := of_decide_eq_true (by with_reducible assumption); have q108004 : t108002 < (l0_1.length : Int) := of_decide_eq_true (by with_reducible assumption); obtain ⟨ad108004, e108004, hx108004_0, hx108004_1, hx108004_2, hx108004_3, hx108004_4⟩ := at_T90 HR0_1.out t108002 p108004 q108004; obtain rfl : ad108003 = ad108004 := (by injection e108004); replace hx108004_0 := (HB.out.cell (World.block_lt_of_cell? w _ hx108004_0)).trans hx108004_0; replace hx108004_1 := (HB.out.cell (World.block_lt_of_cell? w _ hx108004_1)).trans hx108004_1; replace hx108004_2 := (HB.out.cell (World.block_lt_of_cell? w _ hx108004_2)).trans hx108004_2; replace hx108004_3 := (HB.out.cell (World.block_lt_of_cell? w _ hx108004_3)).trans hx108004_3; replace hx108004_4 := (HB.out.cell (World.block_lt_of_cell? w _ hx108004_4)).trans hx108004_4; replace p108004 := eq_true p108004; replace q108004 := eq_true q108004; have p108005 : 0 ≤ (t108002 : Int) := of_decide_eq_true (by with_reducible assumption); have q108005 : t108002 < (l0_1.length : Int) := of_decide_eq_true (by with_reducible assumption); obtain ⟨ad108005, e108005, hx108005_0, hx108005_1, hx108005_2, hx108005_3, hx108005_4⟩ := at_T90 HR0_1.out t108002 p108005 q108005; obtain rfl : ad108003 = ad108005 := (by injection e108005); replace hx108005_0 := (HB.out.cell (World.block_lt_of_cell? w _ hx108005_0)).trans hx108005_0; replace hx108005_1 := (HB.out.cell (World.block_lt_of_cell? w _ hx108005_1)).trans hx108005_1; replace hx108005_2 := (HB.out.cell (World.block_lt_of_cell? w _ hx108005_2)).trans hx108005_2; replace hx108005_3 := (HB.out.cell (World.block_lt_of_cell? w _ hx108005_3)).trans hx108005_3; replace hx108005_4 := (HB.out.cell (World.block_lt_of_cell? w _ hx108005_4)).trans hx108005_4; replace p108005 := eq_true p108005; replace q108005 := eq_true q108005))
       go_roundg k1
       case measure => have := HK1.out; omega
       case rel => exact ⟨((rd_T90 l0_1 t108002).f0), (wrap64 (x8_1 + ((rd_T90 l0_1 t108002).f2))), (wrap64 (x9_1 + ((rd_T90 l0_1 t108002).f3))), (wrap64 (x10_1 + 1)), (by first | rfl | (simp; done) | (simp [*]; done)), (by first | rfl | (simp; done) | (simp [*]; done)), (by first | rfl | (simp; done) | (simp [*]; done)), (by first | rfl | (simp; done) | (simp [*]; done)), H', ⟨by have := HK1.out; omega⟩, ⟨by (with_reducible repeat (first | refine blk_drewN ?_ _ | refine blk_drew ?_ | refine blk_alloc ?_ _)); exact BK108001.out⟩, ⟨by repeat (first | (with_reducible first | exact HB.out | apply below_alloc | apply pw_below_drewN | apply below_drew1 | refine below_set ?_ GE108001.out) | exact HB.out)⟩⟩
      ·rw [if_neg c10] at H
       exact absurd H (by simp)
     ·rw [if_neg c9] at H
      exact absurd H (by simp)
   ·rw [if_neg c4] at H
    have c4b0 : decide (x10_1 ≤ (l0_0.length : Int)) = false := decide_eq_false c4
    clear c4
    simp only [Option.some.injEq, Prod.mk.injEq] at H
    obtain ⟨rfl, rfl, rfl, rfl⟩ := H
    have hcz14_0 : wr.cell? ⟨gb108001, 0, none⟩ = some (.slice A0_0 l0_0.length c0_0) := (blk_cell BK108001.out 0).trans rfl
    have hcz14_1 : wr.cell? ⟨gb108001, 1, none⟩ = some (.slice A0_1 l0_1.length c0_1) := (blk_cell BK108001.out 1).trans rfl
    have hcz14_2 : wr.cell? ⟨gb108001, 2, none⟩ = some (.int .i64 a0_2) := (blk_cell BK108001.out 2).trans rfl
    go_wp2
    refine bodyPost_ret (results_list (rs := [.tmp 4, .tmp 5, .tmp 6, .tmp 7]) rfl (by simp) (.tmp (.tmp (.tmp (.tmp .nil))))) rfl ?_
    exact ⟨by first | rfl | (simp [errW_none, errW_some] <;> rfl) | (simp [*, errW_none, errW_some] <;> rfl), by repeat (first | (with_reducible first | exact HB.out | apply below_alloc | apply pw_below_drewN | apply below_drew1 | refine below_set ?_ GE108001.out) | exact HB.out)⟩

def spec_l12Plain.l0 : Nat → List (S116) → Int → Int → List (S116) → List (S90) → Int → Option (Bool)
 | 0, _, _, _, _, _, _ => none
 | k + 1, x10, x11, x12, x107002000, x107002001, x107002002 => if x12 < x11 then (if 0 ≤ x12 then (if x12 < (x10.length : Int) then ((spec_l12Base.f k x107002000 x107002001 x107002002 x12).bind fun bt107004 => (if (((rd_T116 x10 x12).f1).length : Int) > 0 then (some false) else (if bt107004.2.2.2 = true then (spec_l12Plain.l0 k x10 x11 (wrap64 (x12 + 1)) x107002000 x107002001 x107002002) else (some false)))) else (none)) else (none)) else (some true)
def spec_l12Plain.f (k : Nat) (l0_0 : List (S116)) (l0_1 : List (S90)) (a0_2 : Int) : Option (Bool) := spec_l12Plain.l0 k l0_0 (l0_0.length : Int) 0 l0_0 l0_1 a0_2
set_option maxHeartbeats 8000000 in
set_option maxRecDepth 100000 in
theorem spec_l12Plain.calls (k : Nat) (A0_0 : Option Addr) (c0_0 : Nat) (l0_0 : List (S116)) (A0_1 : Option Addr) (c0_1 : Nat) (l0_1 : List (S90)) (a0_2 : Int) (r : Bool) (w : World) (hr0_0 : Kd.C k116 w A0_0 l0_0.length l0_0) (hc0_0 : l0_0.length ≤ c0_0) (hr0_1 : Kd.C k90 w A0_1 l0_1.length l0_1) (hc0_1 : l0_1.length ≤ c0_1) (h : spec_l12Plain.f k l0_0 l0_1 a0_2 = some r) :
  Calls Try.prog 107 #[.agg #[.slice A0_0 l0_0.length c0_0, .slice A0_1 l0_1.length c0_1, .int .i64 a0_2]] w fun e w' => e = .returned (.bool r) ∧ Below w.heap.size w w' := by
 have hu35 := Try.underlying35
 have hu116 := Try.underlying116
 have HR0_0 := Aside0.mk hr0_0; have HC0_0 := Aside0.mk hc0_0; clear hr0_0 hc0_0; have HR0_1 := Aside0.mk hr0_1; have HC0_1 := Aside0.mk hc0_1; clear hr0_1 hc0_1
 have HB := Aside0.mk (Below.refl w.heap.size w)
 have H : (spec_l12Plain.l0 k l0_0 (l0_0.length : Int) 0 l0_0 l0_1 a0_2) = some r := h
 clear h
 have H' := Aside0.mk H
 clear H
 go_enter Try.func107, Try.ntmps107
 go_wp2_with (first | ((with_reducible refine gate_dst (N := 1) rfl ?_); refine box_event ?hg (N := 1) ?hd (cs := #[.slice A0_0 l0_0.length c0_0, .slice A0_1 l0_1.length c0_1, .int .i64 a0_2]) (t := 35) ?hr ?_; (case hd => rfl); (case hg => rfl); (case hr => first | (go_simp; done) | (go_simp; rfl)); intro gb107001 hg w2 hbox hb; have n0_ := Aside0.mk (below_step (by exact HB.out) hb); have n1_ := Aside0.mk (hbox); have n2_ := Aside0.mk ((by rw [hg]; exact (below_size (by exact HB.out)) : w.heap.size ≤ gb107001)); have n3_ := n2_; clear HB; have HB := n0_; have BK107001 := n1_; have GW107001 := n2_; have GE107001 := n3_; clear n0_ n1_ n2_ n3_; clear hb hbox hg; have hcz3_0 : w2.cell? ⟨gb107001, 0, none⟩ = some (.slice A0_0 l0_0.length c0_0) := (blk_cell BK107001.out 0).trans rfl; have hcz3_1 : w2.cell? ⟨gb107001, 1, none⟩ = some (.slice A0_1 l0_1.length c0_1) := (blk_cell BK107001.out 1).trans rfl; have hcz3_2 : w2.cell? ⟨gb107001, 2, none⟩ = some (.int .i64 a0_2) := (blk_cell BK107001.out 2).trans rfl; have hfz3_0 := blk_frozen BK107001.out 0; have hfz3_1 := blk_frozen BK107001.out 1; have hfz3_2 := blk_frozen BK107001.out 2))
 go_loopg [12] k (fun kq v12 w' => ∃ (x12_1 : Int), v12 = .int .i64 x12_1 ∧ Aside0 (spec_l12Plain.l0 kq l0_0 (l0_0.length : Int) x12_1 l0_0 l0_1 a0_2 = some r) ∧ Aside0 (kq ≤ k) ∧ Aside0 (w'.heap[gb107001]? = some (.cells #[(.slice A0_0 l0_0.length c0_0), (.slice A0_1 l0_1.length c0_1), .int .i64 a0_2] 35 (0, 0))) ∧ Aside0 (Below w.heap.size w w'))
 case atStart => exact ⟨(0), (by first | rfl | (simp; done) | (simp [*]; done)), H', ⟨Nat.le_refl _⟩, ⟨by (with_reducible repeat (first | refine blk_drewN ?_ _ | refine blk_drew ?_ | refine blk_alloc ?_ _)); exact BK107001.out⟩, ⟨by repeat (first | (with_reducible first | exact HB.out | apply below_alloc | apply pw_below_drewN | apply below_drew1 | refine below_set ?_ GE107001.out) | exact HB.out)⟩⟩
 case round =>
  clear H'
  try clear c1
  try clear p2
  obtain ⟨x12_1, rfl, HA, HK1, BK107001, HB⟩ := hrel
  cases gk with
  | zero => exact absurd HA.out (by simp [spec_l12Plain.l0])
  | succ k1 =>
   have H := HA.out
   clear HA
   simp only [spec_l12Plain.l0] at H
   by_cases c4 : x12_1 < (l0_0.length : Int)
   ·rw [if_pos c4] at H
    have c4b0 : decide (x12_1 < (l0_0.length : Int)) = true := decide_eq_true c4
    clear c4
    by_cases c5 : 0 ≤ x12_1
    ·rw [if_pos c5] at H
     have c5b0 : decide (0 ≤ x12_1) = true := decide_eq_true c5
     clear c5
     by_cases c6 : x12_1 < (l0_0.length : Int)
     ·rw [if_pos c6] at H
      have c6b0 : decide (x12_1 < (l0_0.length : Int)) = true := decide_eq_true c6
      clear c6
      replace H := Option.bind_eq_some_iff.mp H
      obtain ⟨⟨t107004, t107005, t107006, t107007⟩, A70, H⟩ := H
      replace H : (if (((rd_T116 l0_0 x12_1).f1).length : Int) > 0 then (some false) else (if t107007 = true then (spec_l12Plain.l0 k1 l0_0 (l0_0.length : Int) (wrap64 (x12_1 + 1)) l0_0 l0_1 a0_2) else (some false))) = some r := H
      have A7 := Aside0.mk A70; clear A70
      by_cases c8 : (((rd_T116 l0_0 x12_1).f1).length : Int) > 0
      ·rw [if_pos c8] at H
       have c8b0 : decide (0 < (((rd_T116 l0_0 x12_1).f1).length : Int)) = true := decide_eq_true c8
       have c8b1 : decide (0 < ((rd_T116 l0_0 x12_1).f1).length) = true := decide_eq_true (by omega)
       clear c8
       obtain rfl := Option.some.inj H
       have p107002 : 0 ≤ (x12_1 : Int) := of_decide_eq_true (by with_reducible assumption)
       have q107002 : x12_1 < (l0_0.length : Int) := of_decide_eq_true (by with_reducible assumption)
       obtain ⟨ad107002, A107002_1, c107002_1, e107002, hx107002_0, hx107002_1, hx107002_2, hl107002_1, hi107002_1⟩ := at_T116 HR0_0.out x12_1 p107002 q107002
       cases e107002
       replace hx107002_0 := (HB.out.cell (World.block_lt_of_cell? w _ hx107002_0)).trans hx107002_0
       replace hx107002_1 := (HB.out.cell (World.block_lt_of_cell? w _ hx107002_1)).trans hx107002_1
       replace hx107002_2 := (HB.out.cell (World.block_lt_of_cell? w _ hx107002_2)).trans hx107002_2
       have HR107002_1 := Aside0.mk hi107002_1; have HC107002_1 := Aside0.mk hl107002_1; clear hi107002_1 hl107002_1
       replace p107002 := eq_true p107002
       replace q107002 := eq_true q107002
       go_wp2_with (first | ((with_reducible refine gate_dst (N := 4) rfl ?_); refine box_event ?hg (N := 4) ?hd (cs := #[.string (⟨#[]⟩ : ByteArray), .slice none 0 0, .int .i64 0]) (t := 116) ?hr ?_; (case hd => rfl); (case hg => rfl); (case hr => first | (go_simp; done) | (go_simp; rfl)); intro gb107003 hg w9 hbox hb; have n0_ := Aside0.mk (blk_below (g := gb107001) (o := .cells #[.slice (some ad107002) l0_0.length c0_0, .slice A0_1 l0_1.length c0_1, .int .i64 a0_2] 35 (0, 0)) BK107001.out hb); have n1_ := Aside0.mk (below_step (by exact HB.out) hb); have n2_ := Aside0.mk (hbox); have n3_ := Aside0.mk ((by rw [hg]; exact (below_size (by exact HB.out)) : w.heap.size ≤ gb107003)); have n4_ := n3_; have n5_ := Aside0.mk ((by rw [hg]; exact Nat.ne_of_lt (blk_lt (g := gb107001) (o := .cells #[.slice (some ad107002) l0_0.length c0_0, .slice A0_1 l0_1.length c0_1, .int .i64 a0_2] 35 (0, 0)) BK107001.out) : gb107001 ≠ gb107003)); have n6_ := Aside0.mk n5_.out.symm; clear BK107001; clear HB; have BK107001 := n0_; have HB := n1_; have BK107003 := n2_; have GW107003 := n3_; have GE107003 := n4_; have NB107001_107003 := n5_; have NB107003_107001 := n6_; clear n0_ n1_ n2_ n3_ n4_ n5_ n6_; clear hb hbox hg; have hnb10 := NB107003_107001.out; have hnc10 := NB107001_107003.out; have hcz11_0 : w9.cell? ⟨gb107003, 0, none⟩ = some (.string (⟨#[]⟩ : ByteArray)) := (blk_cell BK107003.out 0).trans rfl; have hcz11_1 : w9.cell? ⟨gb107003, 1, none⟩ = some (.slice none 0 0) := (blk_cell BK107003.out 1).trans rfl; have hcz11_2 : w9.cell? ⟨gb107003, 2, none⟩ = some (.int .i64 0) := (blk_cell BK107003.out 2).trans rfl; have hfz11_0 := blk_frozen BK107003.out 0; have hfz11_1 := blk_frozen BK107003.out 1; have hfz11_2 := blk_frozen BK107003.out 2; have hcz12_0 : w9.cell? ⟨gb107001, 0, none⟩ = some (.slice (some ad107002) l0_0.length c0_0) := (blk_cell BK107001.out 0).trans rfl; have hcz12_1 : w9.cell? ⟨gb107001, 1, none⟩ = some (.slice A0_1 l0_1.length c0_1) := (blk_cell BK107001.out 1).trans rfl; have hcz12_2 : w9.cell? ⟨gb107001, 2, none⟩ = some (.int .i64 a0_2) := (blk_cell BK107001.out 2).trans rfl; have hfz12_0 := blk_frozen BK107001.out 0; have hfz12_1 := blk_frozen BK107001.out 1; have hfz12_2 := blk_frozen BK107001.out 2) | ((with_reducible refine gate_callee (f := 108) rfl ?_); refine goesL_ (some 20) rfl rfl Try.func108 (by kernel_rfl) rfl #[.agg #[.slice (some ad107002) l0_0.length c0_0, .slice A0_1 l0_1.length c0_1, .int .i64 a0_2], .int .i64 x12_1] rfl (by (try simp only [List.map_toArray, List.map_cons, List.map_nil]); first | done | rfl | (simp only [List.length_drop, List.length_take]; rfl)) ?_; (with_reducible refine (spec_l12Base.calls k1 _ _ l0_0 _ _ l0_1 a0_2 x12_1 t107004 t107005 t107006 t107007 _ ?side1 ?side2 ?side3 ?side4 A7.out).mono ?_); (case side1 => exact Kd.C_below HR0_0.out (by repeat (first | (with_reducible first | exact HB.out | apply below_alloc | apply pw_below_drewN | apply below_drew1 | refine below_set ?_ GE107001.out | refine below_set ?_ GE107003.out) | exact HB.out))); (case side2 => exact HC0_0.out); (case side3 => exact Kd.C_below HR0_1.out (by repeat (first | (with_reducible first | exact HB.out | apply below_alloc | apply pw_below_drewN | apply below_drew1 | refine below_set ?_ GE107001.out | refine below_set ?_ GE107003.out) | exact HB.out))); (case side4 => exact HC0_1.out); rintro e w13 ⟨rfl, hb⟩; refine ⟨_, rfl, ?_⟩; have n0_ := Aside0.mk (blk_below (g := gb107001) (o := .cells #[.slice (some ad107002) l0_0.length c0_0, .slice A0_1 l0_1.length c0_1, .int .i64 a0_2] 35 (0, 0)) (by (with_reducible repeat (first | refine blk_drewN ?_ _ | refine blk_drew ?_ | refine blk_alloc ?_ _)); refine blk_far ?_ NB107001_107003.out _; (with_reducible repeat (first | refine blk_drewN ?_ _ | refine blk_drew ?_ | refine blk_alloc ?_ _)); refine blk_far ?_ NB107001_107003.out _; (with_reducible repeat (first | refine blk_drewN ?_ _ | refine blk_drew ?_ | refine blk_alloc ?_ _)); refine blk_far ?_ NB107001_107003.out _; (with_reducible repeat (first | refine blk_drewN ?_ _ | refine blk_drew ?_ | refine blk_alloc ?_ _)); exact BK107001.out) hb); have n1_ := Aside0.mk (blk_below (g := gb107003) (o := .cells #[.string ((rd_T116 l0_0 x12_1).f0), .slice A107002_1 ((rd_T116 l0_0 x12_1).f1).length c107002_1, .int .i64 ((rd_T116 l0_0 x12_1).f2)] 116 (0, 0)) (by (with_reducible repeat (first | refine blk_drewN ?_ _ | refine blk_drew ?_ | refine blk_alloc ?_ _)); refine blk_put (cs := #[.string ((rd_T116 l0_0 x12_1).f0), .slice A107002_1 ((rd_T116 l0_0 x12_1).f1).length c107002_1, .int .i64 0]) ?_ 2 _ rfl; (with_reducible repeat (first | refine blk_drewN ?_ _ | refine blk_drew ?_ | refine blk_alloc ?_ _)); refine blk_put (cs := #[.string ((rd_T116 l0_0 x12_1).f0), .slice none 0 0, .int .i64 0]) ?_ 1 _ rfl; (with_reducible repeat (first | refine blk_drewN ?_ _ | refine blk_drew ?_ | refine blk_alloc ?_ _)); refine blk_put (cs := #[.string (⟨#[]⟩ : ByteArray), .slice none 0 0, .int .i64 0]) ?_ 0 _ rfl; (with_reducible repeat (first | refine blk_drewN ?_ _ | refine blk_drew ?_ | refine blk_alloc ?_ _)); exact BK107003.out) hb); have n2_ := Aside0.mk (below_step (by repeat (first | (with_reducible first | exact HB.out | apply below_alloc | apply pw_below_drewN | apply below_drew1 | refine below_set ?_ GE107001.out | refine below_set ?_ GE107003.out) | exact HB.out)) hb); clear BK107001; clear BK107003; clear HB; have BK107001 := n0_; have BK107003 := n1_; have HB := n2_; clear n0_ n1_ n2_; (try clear hb); (try clear hb2); (try clear hk); (try clear hi); have hcz14_0 : w13.cell? ⟨gb107003, 0, none⟩ = some (.string ((rd_T116 l0_0 x12_1).f0)) := (blk_cell BK107003.out 0).trans rfl; have hcz14_1 : w13.cell? ⟨gb107003, 1, none⟩ = some (.slice A107002_1 ((rd_T116 l0_0 x12_1).f1).length c107002_1) := (blk_cell BK107003.out 1).trans rfl; have hcz14_2 : w13.cell? ⟨gb107003, 2, none⟩ = some (.int .i64 ((rd_T116 l0_0 x12_1).f2)) := (blk_cell BK107003.out 2).trans rfl; have hfz14_0 := blk_frozen BK107003.out 0; have hfz14_1 := blk_frozen BK107003.out 1; have hfz14_2 := blk_frozen BK107003.out 2))
       go_ret
       exact ⟨by first | rfl | (simp [errW_none, errW_some] <;> rfl) | (simp [*, errW_none, errW_some] <;> rfl), by repeat (first | (with_reducible first | exact HB.out | apply below_alloc | apply pw_below_drewN | apply below_drew1 | refine below_set ?_ GE107001.out | refine below_set ?_ GE107003.out) | exact HB.out)⟩
      ·rw [if_neg c8] at H
       have c8b0 : decide (0 < (((rd_T116 l0_0 x12_1).f1).length : Int)) = false := decide_eq_false c8
       have c8b1 : decide (0 < ((rd_T116 l0_0 x12_1).f1).length) = false := decide_eq_false (by omega)
       clear c8
       by_cases c15 : t107007 = true
       ·subst c15
        have H1 : (spec_l12Plain.l0 k1 l0_0 (l0_0.length : Int) (wrap64 (x12_1 + 1)) l0_0 l0_1 a0_2) = some r := by rw [if_pos rfl] at H; exact H
        clear H
        have H := H1
        clear H1
        have H' := Aside0.mk H
        clear H
        have p107002 : 0 ≤ (x12_1 : Int) := of_decide_eq_true (by with_reducible assumption)
        have q107002 : x12_1 < (l0_0.length : Int) := of_decide_eq_true (by with_reducible assumption)
        obtain ⟨ad107002, A107002_1, c107002_1, e107002, hx107002_0, hx107002_1, hx107002_2, hl107002_1, hi107002_1⟩ := at_T116 HR0_0.out x12_1 p107002 q107002
        cases e107002
        replace hx107002_0 := (HB.out.cell (World.block_lt_of_cell? w _ hx107002_0)).trans hx107002_0
        replace hx107002_1 := (HB.out.cell (World.block_lt_of_cell? w _ hx107002_1)).trans hx107002_1
        replace hx107002_2 := (HB.out.cell (World.block_lt_of_cell? w _ hx107002_2)).trans hx107002_2
        have HR107002_1 := Aside0.mk hi107002_1; have HC107002_1 := Aside0.mk hl107002_1; clear hi107002_1 hl107002_1
        replace p107002 := eq_true p107002
        replace q107002 := eq_true q107002
        go_wp2_with (first | ((with_reducible refine gate_dst (N := 4) rfl ?_); refine box_event ?hg (N := 4) ?hd (cs := #[.string (⟨#[]⟩ : ByteArray), .slice none 0 0, .int .i64 0]) (t := 116) ?hr ?_; (case hd => rfl); (case hg => rfl); (case hr => first | (go_simp; done) | (go_simp; rfl)); intro gb107003 hg w16 hbox hb; have n0_ := Aside0.mk (blk_below (g := gb107001) (o := .cells #[.slice (some ad107002) l0_0.length c0_0, .slice A0_1 l0_1.length c0_1, .int .i64 a0_2] 35 (0, 0)) BK107001.out hb); have n1_ := Aside0.mk (below_step (by exact HB.out) hb); have n2_ := Aside0.mk (hbox); have n3_ := Aside0.mk ((by rw [hg]; exact (below_size (by exact HB.out)) : w.heap.size ≤ gb107003)); have n4_ := n3_; have n5_ := Aside0.mk ((by rw [hg]; exact Nat.ne_of_lt (blk_lt (g := gb107001) (o := .cells #[.slice (some ad107002) l0_0.length c0_0, .slice A0_1 l0_1.length c0_1, .int .i64 a0_2] 35 (0, 0)) BK107001.out) : gb107001 ≠ gb107003)); have n6_ := Aside0.mk n5_.out.symm; clear BK107001; clear HB; have BK107001 := n0_; have HB := n1_; have BK107003 := n2_; have GW107003 := n3_; have GE107003 := n4_; have NB107001_107003 := n5_; have NB107003_107001 := n6_; clear n0_ n1_ n2_ n3_ n4_ n5_ n6_; clear hb hbox hg; have hnb17 := NB107003_107001.out; have hnc17 := NB107001_107003.out; have hcz18_0 : w16.cell? ⟨gb107003, 0, none⟩ = some (.string (⟨#[]⟩ : ByteArray)) := (blk_cell BK107003.out 0).trans rfl; have hcz18_1 : w16.cell? ⟨gb107003, 1, none⟩ = some (.slice none 0 0) := (blk_cell BK107003.out 1).trans rfl; have hcz18_2 : w16.cell? ⟨gb107003, 2, none⟩ = some (.int .i64 0) := (blk_cell BK107003.out 2).trans rfl; have hfz18_0 := blk_frozen BK107003.out 0; have hfz18_1 := blk_frozen BK107003.out 1; have hfz18_2 := blk_frozen BK107003.out 2; have hcz19_0 : w16.cell? ⟨gb107001, 0, none⟩ = some (.slice (some ad107002) l0_0.length c0_0) := (blk_cell BK107001.out 0).trans rfl; have hcz19_1 : w16.cell? ⟨gb107001, 1, none⟩ = some (.slice A0_1 l0_1.length c0_1) := (blk_cell BK107001.out 1).trans rfl; have hcz19_2 : w16.cell? ⟨gb107001, 2, none⟩ = some (.int .i64 a0_2) := (blk_cell BK107001.out 2).trans rfl; have hfz19_0 := blk_frozen BK107001.out 0; have hfz19_1 := blk_frozen BK107001.out 1; have hfz19_2 := blk_frozen BK107001.out 2) | ((with_reducible refine gate_callee (f := 108) rfl ?_); refine goesL_ (some 20) rfl rfl Try.func108 (by kernel_rfl) rfl #[.agg #[.slice (some ad107002) l0_0.length c0_0, .slice A0_1 l0_1.length c0_1, .int .i64 a0_2], .int .i64 x12_1] rfl (by (try simp only [List.map_toArray, List.map_cons, List.map_nil]); first | done | rfl | (simp only [List.length_drop, List.length_take]; rfl)) ?_; (with_reducible refine (spec_l12Base.calls k1 _ _ l0_0 _ _ l0_1 a0_2 x12_1 t107004 t107005 t107006 true _ ?side1 ?side2 ?side3 ?side4 A7.out).mono ?_); (case side1 => exact Kd.C_below HR0_0.out (by repeat (first | (with_reducible first | exact HB.out | apply below_alloc | apply pw_below_drewN | apply below_drew1 | refine below_set ?_ GE107001.out | refine below_set ?_ GE107003.out) | exact HB.out))); (case side2 => exact HC0_0.out); (case side3 => exact Kd.C_below HR0_1.out (by repeat (first | (with_reducible first | exact HB.out | apply below_alloc | apply pw_below_drewN | apply below_drew1 | refine below_set ?_ GE107001.out | refine below_set ?_ GE107003.out) | exact HB.out))); (case side4 => exact HC0_1.out); rintro e w20 ⟨rfl, hb⟩; refine ⟨_, rfl, ?_⟩; have n0_ := Aside0.mk (blk_below (g := gb107001) (o := .cells #[.slice (some ad107002) l0_0.length c0_0, .slice A0_1 l0_1.length c0_1, .int .i64 a0_2] 35 (0, 0)) (by (with_reducible repeat (first | refine blk_drewN ?_ _ | refine blk_drew ?_ | refine blk_alloc ?_ _)); refine blk_far ?_ NB107001_107003.out _; (with_reducible repeat (first | refine blk_drewN ?_ _ | refine blk_drew ?_ | refine blk_alloc ?_ _)); refine blk_far ?_ NB107001_107003.out _; (with_reducible repeat (first | refine blk_drewN ?_ _ | refine blk_drew ?_ | refine blk_alloc ?_ _)); refine blk_far ?_ NB107001_107003.out _; (with_reducible repeat (first | refine blk_drewN ?_ _ | refine blk_drew ?_ | refine blk_alloc ?_ _)); exact BK107001.out) hb); have n1_ := Aside0.mk (blk_below (g := gb107003) (o := .cells #[.string ((rd_T116 l0_0 x12_1).f0), .slice A107002_1 ((rd_T116 l0_0 x12_1).f1).length c107002_1, .int .i64 ((rd_T116 l0_0 x12_1).f2)] 116 (0, 0)) (by (with_reducible repeat (first | refine blk_drewN ?_ _ | refine blk_drew ?_ | refine blk_alloc ?_ _)); refine blk_put (cs := #[.string ((rd_T116 l0_0 x12_1).f0), .slice A107002_1 ((rd_T116 l0_0 x12_1).f1).length c107002_1, .int .i64 0]) ?_ 2 _ rfl; (with_reducible repeat (first | refine blk_drewN ?_ _ | refine blk_drew ?_ | refine blk_alloc ?_ _)); refine blk_put (cs := #[.string ((rd_T116 l0_0 x12_1).f0), .slice none 0 0, .int .i64 0]) ?_ 1 _ rfl; (with_reducible repeat (first | refine blk_drewN ?_ _ | refine blk_drew ?_ | refine blk_alloc ?_ _)); refine blk_put (cs := #[.string (⟨#[]⟩ : ByteArray), .slice none 0 0, .int .i64 0]) ?_ 0 _ rfl; (with_reducible repeat (first | refine blk_drewN ?_ _ | refine blk_drew ?_ | refine blk_alloc ?_ _)); exact BK107003.out) hb); have n2_ := Aside0.mk (below_step (by repeat (first | (with_reducible first | exact HB.out | apply below_alloc | apply pw_below_drewN | apply below_drew1 | refine below_set ?_ GE107001.out | refine below_set ?_ GE107003.out) | exact HB.out)) hb); clear BK107001; clear BK107003; clear HB; have BK107001 := n0_; have BK107003 := n1_; have HB := n2_; clear n0_ n1_ n2_; (try clear hb); (try clear hb2); (try clear hk); (try clear hi); have hcz21_0 : w20.cell? ⟨gb107003, 0, none⟩ = some (.string ((rd_T116 l0_0 x12_1).f0)) := (blk_cell BK107003.out 0).trans rfl; have hcz21_1 : w20.cell? ⟨gb107003, 1, none⟩ = some (.slice A107002_1 ((rd_T116 l0_0 x12_1).f1).length c107002_1) := (blk_cell BK107003.out 1).trans rfl; have hcz21_2 : w20.cell? ⟨gb107003, 2, none⟩ = some (.int .i64 ((rd_T116 l0_0 x12_1).f2)) := (blk_cell BK107003.out 2).trans rfl; have hfz21_0 := blk_frozen BK107003.out 0; have hfz21_1 := blk_frozen BK107003.out 1; have hfz21_2 := blk_frozen BK107003.out 2))
        go_roundg k1
        case measure => have := HK1.out; omega
        case rel => exact ⟨(wrap64 (x12_1 + 1)), (by first | rfl | (simp; done) | (simp [*]; done)), H', ⟨by have := HK1.out; omega⟩, ⟨by (with_reducible repeat (first | refine blk_drewN ?_ _ | refine blk_drew ?_ | refine blk_alloc ?_ _)); exact BK107001.out⟩, ⟨by repeat (first | (with_reducible first | exact HB.out | apply below_alloc | apply pw_below_drewN | apply below_drew1 | refine below_set ?_ GE107001.out | refine below_set ?_ GE107003.out) | exact HB.out)⟩⟩
       ·replace c15 := Bool.eq_false_iff.mpr c15
        subst c15
        have H1 : (some false) = some r := by rw [if_neg (show ¬ (false = true) by decide)] at H; exact H
        clear H
        have H := H1
        clear H1
        obtain rfl := Option.some.inj H
        have p107002 : 0 ≤ (x12_1 : Int) := of_decide_eq_true (by with_reducible assumption)
        have q107002 : x12_1 < (l0_0.length : Int) := of_decide_eq_true (by with_reducible assumption)
        obtain ⟨ad107002, A107002_1, c107002_1, e107002, hx107002_0, hx107002_1, hx107002_2, hl107002_1, hi107002_1⟩ := at_T116 HR0_0.out x12_1 p107002 q107002
        cases e107002
        replace hx107002_0 := (HB.out.cell (World.block_lt_of_cell? w _ hx107002_0)).trans hx107002_0
        replace hx107002_1 := (HB.out.cell (World.block_lt_of_cell? w _ hx107002_1)).trans hx107002_1
        replace hx107002_2 := (HB.out.cell (World.block_lt_of_cell? w _ hx107002_2)).trans hx107002_2
        have HR107002_1 := Aside0.mk hi107002_1; have HC107002_1 := Aside0.mk hl107002_1; clear hi107002_1 hl107002_1
        replace p107002 := eq_true p107002
        replace q107002 := eq_true q107002
        go_wp2_with (first | ((with_reducible refine gate_dst (N := 4) rfl ?_); refine box_event ?hg (N := 4) ?hd (cs := #[.string (⟨#[]⟩ : ByteArray), .slice none 0 0, .int .i64 0]) (t := 116) ?hr ?_; (case hd => rfl); (case hg => rfl); (case hr => first | (go_simp; done) | (go_simp; rfl)); intro gb107003 hg w22 hbox hb; have n0_ := Aside0.mk (blk_below (g := gb107001) (o := .cells #[.slice (some ad107002) l0_0.length c0_0, .slice A0_1 l0_1.length c0_1, .int .i64 a0_2] 35 (0, 0)) BK107001.out hb); have n1_ := Aside0.mk (below_step (by exact HB.out) hb); have n2_ := Aside0.mk (hbox); have n3_ := Aside0.mk ((by rw [hg]; exact (below_size (by exact HB.out)) : w.heap.size ≤ gb107003)); have n4_ := n3_; have n5_ := Aside0.mk ((by rw [hg]; exact Nat.ne_of_lt (blk_lt (g := gb107001) (o := .cells #[.slice (some ad107002) l0_0.length c0_0, .slice A0_1 l0_1.length c0_1, .int .i64 a0_2] 35 (0, 0)) BK107001.out) : gb107001 ≠ gb107003)); have n6_ := Aside0.mk n5_.out.symm; clear BK107001; clear HB; have BK107001 := n0_; have HB := n1_; have BK107003 := n2_; have GW107003 := n3_; have GE107003 := n4_; have NB107001_107003 := n5_; have NB107003_107001 := n6_; clear n0_ n1_ n2_ n3_ n4_ n5_ n6_; clear hb hbox hg; have hnb23 := NB107003_107001.out; have hnc23 := NB107001_107003.out; have hcz24_0 : w22.cell? ⟨gb107003, 0, none⟩ = some (.string (⟨#[]⟩ : ByteArray)) := (blk_cell BK107003.out 0).trans rfl; have hcz24_1 : w22.cell? ⟨gb107003, 1, none⟩ = some (.slice none 0 0) := (blk_cell BK107003.out 1).trans rfl; have hcz24_2 : w22.cell? ⟨gb107003, 2, none⟩ = some (.int .i64 0) := (blk_cell BK107003.out 2).trans rfl; have hfz24_0 := blk_frozen BK107003.out 0; have hfz24_1 := blk_frozen BK107003.out 1; have hfz24_2 := blk_frozen BK107003.out 2; have hcz25_0 : w22.cell? ⟨gb107001, 0, none⟩ = some (.slice (some ad107002) l0_0.length c0_0) := (blk_cell BK107001.out 0).trans rfl; have hcz25_1 : w22.cell? ⟨gb107001, 1, none⟩ = some (.slice A0_1 l0_1.length c0_1) := (blk_cell BK107001.out 1).trans rfl; have hcz25_2 : w22.cell? ⟨gb107001, 2, none⟩ = some (.int .i64 a0_2) := (blk_cell BK107001.out 2).trans rfl; have hfz25_0 := blk_frozen BK107001.out 0; have hfz25_1 := blk_frozen BK107001.out 1; have hfz25_2 := blk_frozen BK107001.out 2) | ((with_reducible refine gate_callee (f := 108) rfl ?_); refine goesL_ (some 20) rfl rfl Try.func108 (by kernel_rfl) rfl #[.agg #[.slice (some ad107002) l0_0.length c0_0, .slice A0_1 l0_1.length c0_1, .int .i64 a0_2], .int .i64 x12_1] rfl (by (try simp only [List.map_toArray, List.map_cons, List.map_nil]); first | done | rfl | (simp only [List.length_drop, List.length_take]; rfl)) ?_; (with_reducible refine (spec_l12Base.calls k1 _ _ l0_0 _ _ l0_1 a0_2 x12_1 t107004 t107005 t107006 false _ ?side1 ?side2 ?side3 ?side4 A7.out).mono ?_); (case side1 => exact Kd.C_below HR0_0.out (by repeat (first | (with_reducible first | exact HB.out | apply below_alloc | apply pw_below_drewN | apply below_drew1 | refine below_set ?_ GE107001.out | refine below_set ?_ GE107003.out) | exact HB.out))); (case side2 => exact HC0_0.out); (case side3 => exact Kd.C_below HR0_1.out (by repeat (first | (with_reducible first | exact HB.out | apply below_alloc | apply pw_below_drewN | apply below_drew1 | refine below_set ?_ GE107001.out | refine below_set ?_ GE107003.out) | exact HB.out))); (case side4 => exact HC0_1.out); rintro e w26 ⟨rfl, hb⟩; refine ⟨_, rfl, ?_⟩; have n0_ := Aside0.mk (blk_below (g := gb107001) (o := .cells #[.slice (some ad107002) l0_0.length c0_0, .slice A0_1 l0_1.length c0_1, .int .i64 a0_2] 35 (0, 0)) (by (with_reducible repeat (first | refine blk_drewN ?_ _ | refine blk_drew ?_ | refine blk_alloc ?_ _)); refine blk_far ?_ NB107001_107003.out _; (with_reducible repeat (first | refine blk_drewN ?_ _ | refine blk_drew ?_ | refine blk_alloc ?_ _)); refine blk_far ?_ NB107001_107003.out _; (with_reducible repeat (first | refine blk_drewN ?_ _ | refine blk_drew ?_ | refine blk_alloc ?_ _)); refine blk_far ?_ NB107001_107003.out _; (with_reducible repeat (first | refine blk_drewN ?_ _ | refine blk_drew ?_ | refine blk_alloc ?_ _)); exact BK107001.out) hb); have n1_ := Aside0.mk (blk_below (g := gb107003) (o := .cells #[.string ((rd_T116 l0_0 x12_1).f0), .slice A107002_1 ((rd_T116 l0_0 x12_1).f1).length c107002_1, .int .i64 ((rd_T116 l0_0 x12_1).f2)] 116 (0, 0)) (by (with_reducible repeat (first | refine blk_drewN ?_ _ | refine blk_drew ?_ | refine blk_alloc ?_ _)); refine blk_put (cs := #[.string ((rd_T116 l0_0 x12_1).f0), .slice A107002_1 ((rd_T116 l0_0 x12_1).f1).length c107002_1, .int .i64 0]) ?_ 2 _ rfl; (with_reducible repeat (first | refine blk_drewN ?_ _ | refine blk_drew ?_ | refine blk_alloc ?_ _)); refine blk_put (cs := #[.string ((rd_T116 l0_0 x12_1).f0), .slice none 0 0, .int .i64 0]) ?_ 1 _ rfl; (with_reducible repeat (first | refine blk_drewN ?_ _ | refine blk_drew ?_ | refine blk_alloc ?_ _)); refine blk_put (cs := #[.string (⟨#[]⟩ : ByteArray), .slice none 0 0, .int .i64 0]) ?_ 0 _ rfl; (with_reducible repeat (first | refine blk_drewN ?_ _ | refine blk_drew ?_ | refine blk_alloc ?_ _)); exact BK107003.out) hb); have n2_ := Aside0.mk (below_step (by repeat (first | (with_reducible first | exact HB.out | apply below_alloc | apply pw_below_drewN | apply below_drew1 | refine below_set ?_ GE107001.out | refine below_set ?_ GE107003.out) | exact HB.out)) hb); clear BK107001; clear BK107003; clear HB; have BK107001 := n0_; have BK107003 := n1_; have HB := n2_; clear n0_ n1_ n2_; (try clear hb); (try clear hb2); (try clear hk); (try clear hi); have hcz27_0 : w26.cell? ⟨gb107003, 0, none⟩ = some (.string ((rd_T116 l0_0 x12_1).f0)) := (blk_cell BK107003.out 0).trans rfl; have hcz27_1 : w26.cell? ⟨gb107003, 1, none⟩ = some (.slice A107002_1 ((rd_T116 l0_0 x12_1).f1).length c107002_1) := (blk_cell BK107003.out 1).trans rfl; have hcz27_2 : w26.cell? ⟨gb107003, 2, none⟩ = some (.int .i64 ((rd_T116 l0_0 x12_1).f2)) := (blk_cell BK107003.out 2).trans rfl; have hfz27_0 := blk_frozen BK107003.out 0; have hfz27_1 := blk_frozen BK107003.out 1; have hfz27_2 := blk_frozen BK107003.out 2))
        go_ret
        exact ⟨by first | rfl | (simp [errW_none, errW_some] <;> rfl) | (simp [*, errW_none, errW_some] <;> rfl), by repeat (first | (with_reducible first | exact HB.out | apply below_alloc | apply pw_below_drewN | apply below_drew1 | refine below_set ?_ GE107001.out | refine below_set ?_ GE107003.out) | exact HB.out)⟩
     ·rw [if_neg c6] at H
      exact absurd H (by simp)
    ·rw [if_neg c5] at H
     exact absurd H (by simp)
   ·rw [if_neg c4] at H
    have c4b0 : decide (x12_1 < (l0_0.length : Int)) = false := decide_eq_false c4
    clear c4
    obtain rfl := Option.some.inj H
    go_wp2
    go_ret
    exact ⟨by first | rfl | (simp [errW_none, errW_some] <;> rfl) | (simp [*, errW_none, errW_some] <;> rfl), by repeat (first | (with_reducible first | exact HB.out | apply below_alloc | apply pw_below_drewN | apply below_drew1 | refine below_set ?_ GE107001.out) | exact HB.out)⟩

def spec_l12Chain.l0 : Nat → Int → List Int → Int → List (S116) → List (S90) → Int → Option (List Int)
 | 0, _, _, _, _, _, _ => none
 | k + 1, x1, x5, x6, x109002000, x109002001, x109002002 => if x6 ≤ (x109002000.length : Int) then ((spec_l08Free.f k x109002000 x109002001 x109002002 x1).bind fun t109005 => (if t109005 < 0 then (some x5) else (if x5.length < 17592186044416 then (if 0 ≤ t109005 then (if t109005 < (x109002001.length : Int) then (spec_l12Chain.l0 k ((rd_T90 x109002001 t109005).f0) (x5 ++ [t109005]) (wrap64 (x6 + 1)) x109002000 x109002001 x109002002) else (none)) else (none)) else (none)))) else (some x5)
def spec_l12Chain.f (k : Nat) (l0_0 : List (S116)) (l0_1 : List (S90)) (a0_2 : Int) (a1 : Int) : Option (List Int) := spec_l12Chain.l0 k a1 (([] : List Int)) 0 l0_0 l0_1 a0_2
set_option maxHeartbeats 8000000 in
set_option maxRecDepth 100000 in
theorem spec_l12Chain.calls (k : Nat) (A0_0 : Option Addr) (c0_0 : Nat) (l0_0 : List (S116)) (A0_1 : Option Addr) (c0_1 : Nat) (l0_1 : List (S90)) (a0_2 : Int) (a1 : Int) (r : List Int) (w : World) (hr0_0 : Kd.C k116 w A0_0 l0_0.length l0_0) (hc0_0 : l0_0.length ≤ c0_0) (hr0_1 : Kd.C k90 w A0_1 l0_1.length l0_1) (hc0_1 : l0_1.length ≤ c0_1) (h : spec_l12Chain.f k l0_0 l0_1 a0_2 a1 = some r) :
  Calls Try.prog 109 #[.agg #[.slice A0_0 l0_0.length c0_0, .slice A0_1 l0_1.length c0_1, .int .i64 a0_2], .int .i64 a1] w fun e w' => ∃ v0_ : Value, e = .returned (v0_) ∧ Kd.R (Kd.int .i64) 3 w' w.heap.size (fun _ => True) v0_ r ∧ Below w.heap.size w w' := by
 have hu35 := Try.underlying35
 have HR0_0 := Aside0.mk hr0_0; have HC0_0 := Aside0.mk hc0_0; clear hr0_0 hc0_0; have HR0_1 := Aside0.mk hr0_1; have HC0_1 := Aside0.mk hc0_1; clear hr0_1 hc0_1
 have HB := Aside0.mk (Below.refl w.heap.size w)
 have H : (spec_l12Chain.l0 k a1 (([] : List Int)) 0 l0_0 l0_1 a0_2) = some r := h
 clear h
 obtain ⟨y109002, hy109002⟩ : ∃ y_ : List Int, y_ = (([] : List Int)) := ⟨_, rfl⟩
 replace H : (spec_l12Chain.l0 k a1 y109002 0 l0_0 l0_1 a0_2) = some r := by first | (rw [hy109002]; with_reducible exact H) | (have H2_ := (Option.bind_some _ _).symm.trans H; rw [hy109002]; with_reducible exact H2_) | (have H2_ := (Option.bind_some _ _).symm.trans H; with_reducible exact H2_) | with_reducible exact H | (rw [hy109002]; exact H) | exact H
 have Ny109002 := Aside0.mk hy109002; clear hy109002
 have H' := Aside0.mk H
 clear H
 go_enter Try.func109, Try.ntmps109
 go_wp2_with (first | ((with_reducible refine gate_dst (N := 2) rfl ?_); refine box_event ?hg (N := 2) ?hd (cs := #[.slice A0_0 l0_0.length c0_0, .slice A0_1 l0_1.length c0_1, .int .i64 a0_2]) (t := 35) ?hr ?_; (case hd => rfl); (case hg => rfl); (case hr => first | (go_simp; done) | (go_simp; rfl)); intro gb109001 hg w3 hbox hb; have n0_ := Aside0.mk (below_step (by exact HB.out) hb); have n1_ := Aside0.mk (hbox); have n2_ := Aside0.mk ((by rw [hg]; exact (below_size (by exact HB.out)) : w.heap.size ≤ gb109001)); have n3_ := n2_; clear HB; have HB := n0_; have BK109001 := n1_; have GW109001 := n2_; have GE109001 := n3_; clear n0_ n1_ n2_ n3_; clear hb hbox hg) | ((with_reducible refine gate_dst (N := 8) rfl ?_); refine Kd.R_lit (Kd.int .i64) _ 3 ?hg (N := 8) ?hd (xs := ([] : List Int)) (inner := []) (ok := fun _ => True) (okp := fun _ => True) ?hr ?hp (fun _ hk => hk) trivial (Below.refl _ _) (Nat.le_refl _) (by simp) ?_; (case hd => rfl); (case hg => rfl); (case hr => first | (go_simp; done) | (go_simp; rfl)); (case hp => exact (Reps.none _ _)); intro v109003 w4 ho5 hb hg_ hnew_; clear hg_ hnew_; (first | rw [← Ny109002.out] at ho5 | (simp only [Int.reduceToNat] at ho5; rw [← Ny109002.out] at ho5)); have n0_ := Aside0.mk (Kd.R_lower ho5 (below_size (by exact HB.out))); have n1_ := Aside0.mk (blk_below BK109001.out hb); have n2_ := Aside0.mk (below_step (by exact HB.out) hb); clear BK109001; clear HB; have HO109004 := n0_; have BK109001 := n1_; have HB := n2_; clear n0_ n1_ n2_; clear hb ho5))
 go_loopg [1, 5, 6] k (fun kq v1 v5 v6 w' => ∃ (x1_1 : Int) (x5_1 : List Int) (x6_1 : Int), v1 = .int .i64 x1_1 ∧ v6 = .int .i64 x6_1 ∧ Aside0 (spec_l12Chain.l0 kq x1_1 x5_1 x6_1 l0_0 l0_1 a0_2 = some r) ∧ Aside0 (kq ≤ k) ∧ Aside0 (Kd.R (Kd.int .i64) 3 w' w.heap.size (fun _ => True) v5 x5_1) ∧ Aside0 (w'.heap[gb109001]? = some (.cells #[(.slice A0_0 l0_0.length c0_0), (.slice A0_1 l0_1.length c0_1), .int .i64 a0_2] 35 (0, 0))) ∧ Aside0 (Below w.heap.size w w'))
 case atStart => exact ⟨(a1), (y109002), (0), (by first | rfl | (simp; done) | (simp [*]; done)), (by first | rfl | (simp; done) | (simp [*]; done)), H', ⟨Nat.le_refl _⟩, ⟨by (with_reducible repeat (first | apply Kd.R_alloc | apply Kd.R_drewN | apply Kd.R_drew)); exact HO109004.out⟩, ⟨by (with_reducible repeat (first | refine blk_drewN ?_ _ | refine blk_drew ?_ | refine blk_alloc ?_ _)); exact BK109001.out⟩, ⟨by repeat (first | (with_reducible first | exact HB.out | apply below_alloc | apply pw_below_drewN | apply below_drew1 | refine below_set ?_ GE109001.out) | exact HB.out)⟩⟩
 case round =>
  clear H'
  try clear c1
  try clear p2
  obtain ⟨x1_1, x5_1, x6_1, rfl, rfl, HA, HK1, HO_5, BK109001, HB⟩ := hrel
  cases gk with
  | zero => exact absurd HA.out (by simp [spec_l12Chain.l0])
  | succ k1 =>
   have H := HA.out
   clear HA
   simp only [spec_l12Chain.l0] at H
   by_cases c6 : x6_1 ≤ (l0_0.length : Int)
   ·rw [if_pos c6] at H
    have c6b0 : decide (x6_1 ≤ (l0_0.length : Int)) = true := decide_eq_true c6
    clear c6
    replace H := Option.bind_eq_some_iff.mp H
    obtain ⟨t109005, A70, H⟩ := H
    replace H : (if t109005 < 0 then (some x5_1) else (if x5_1.length < 17592186044416 then (if 0 ≤ t109005 then (if t109005 < (l0_1.length : Int) then (spec_l12Chain.l0 k1 ((rd_T90 l0_1 t109005).f0) (x5_1 ++ [t109005]) (wrap64 (x6_1 + 1)) l0_0 l0_1 a0_2) else (none)) else (none)) else (none))) = some r := H
    have A7 := Aside0.mk A70; clear A70
    by_cases c8 : t109005 < 0
    ·rw [if_pos c8] at H
     have c8b0 : decide (t109005 < 0) = true := decide_eq_true c8
     clear c8
     obtain rfl := Option.some.inj H
     have hcz9_0 : wr.cell? ⟨gb109001, 0, none⟩ = some (.slice A0_0 l0_0.length c0_0) := (blk_cell BK109001.out 0).trans rfl
     have hcz9_1 : wr.cell? ⟨gb109001, 1, none⟩ = some (.slice A0_1 l0_1.length c0_1) := (blk_cell BK109001.out 1).trans rfl
     have hcz9_2 : wr.cell? ⟨gb109001, 2, none⟩ = some (.int .i64 a0_2) := (blk_cell BK109001.out 2).trans rfl
     go_wp2_with (first | ((with_reducible refine gate_callee (f := 76) rfl ?_); refine goesL_ (some 18) rfl rfl Try.func76 (by kernel_rfl) rfl #[.agg #[.slice A0_0 l0_0.length c0_0, .slice A0_1 l0_1.length c0_1, .int .i64 a0_2], .int .i64 x1_1] rfl (by (try simp only [List.map_toArray, List.map_cons, List.map_nil]); first | done | rfl | (simp only [List.length_drop, List.length_take]; rfl)) ?_; (with_reducible refine (spec_l08Free.calls k1 _ _ l0_0 _ _ l0_1 a0_2 x1_1 t109005 _ ?side1 ?side2 ?side3 ?side4 A7.out).mono ?_); (case side1 => exact (Kd.C_below HR0_0.out HB.out)); (case side2 => exact HC0_0.out); (case side3 => exact (Kd.C_below HR0_1.out HB.out)); (case side4 => exact HC0_1.out); rintro e w10 ⟨rfl, hb⟩; refine ⟨_, rfl, ?_⟩; have n0_ := Aside0.mk (Kd.R_below (by exact HO_5.out) hb); have n1_ := Aside0.mk (blk_below BK109001.out hb); have n2_ := Aside0.mk (below_step (by exact HB.out) hb); clear HO_5; clear BK109001; clear HB; have HO_5 := n0_; have BK109001 := n1_; have HB := n2_; clear n0_ n1_ n2_; (try clear hb); (try clear hb2); (try clear hk); (try clear hi)))
     go_ret
     exact ⟨_, by first | rfl | (simp [errW_none, errW_some] <;> rfl) | (simp [*, errW_none, errW_some] <;> rfl), by (with_reducible repeat (first | apply Kd.R_alloc | apply Kd.R_drewN | apply Kd.R_drew)); exact HO_5.out, by repeat (first | (with_reducible first | exact HB.out | apply below_alloc | apply pw_below_drewN | apply below_drew1 | refine below_set ?_ GE109001.out) | exact HB.out)⟩
    ·rw [if_neg c8] at H
     have c8b0 : decide (t109005 < 0) = false := decide_eq_false c8
     clear c8
     by_cases c11 : x5_1.length < 17592186044416
     ·rw [if_pos c11] at H
      have LMc11 := Aside0.mk c11; clear c11
      obtain ⟨y109006, hy109006⟩ : ∃ y_ : List Int, y_ = (x5_1 ++ [t109005]) := ⟨_, rfl⟩
      replace H : (if 0 ≤ t109005 then (if t109005 < (l0_1.length : Int) then (spec_l12Chain.l0 k1 ((rd_T90 l0_1 t109005).f0) y109006 (wrap64 (x6_1 + 1)) l0_0 l0_1 a0_2) else (none)) else (none)) = some r := by first | (rw [hy109006]; with_reducible exact H) | (have H2_ := (Option.bind_some _ _).symm.trans H; rw [hy109006]; with_reducible exact H2_) | (have H2_ := (Option.bind_some _ _).symm.trans H; with_reducible exact H2_) | with_reducible exact H | (rw [hy109006]; exact H) | exact H
      have Ny109006 := Aside0.mk hy109006; clear hy109006
      by_cases c12 : 0 ≤ t109005
      ·rw [if_pos c12] at H
       have c12b0 : decide (0 ≤ t109005) = true := decide_eq_true c12
       clear c12
       by_cases c13 : t109005 < (l0_1.length : Int)
       ·rw [if_pos c13] at H
        have c13b0 : decide (t109005 < (l0_1.length : Int)) = true := decide_eq_true c13
        clear c13
        have H' := Aside0.mk H
        clear H
        have hcz14_0 : wr.cell? ⟨gb109001, 0, none⟩ = some (.slice A0_0 l0_0.length c0_0) := (blk_cell BK109001.out 0).trans rfl
        have hcz14_1 : wr.cell? ⟨gb109001, 1, none⟩ = some (.slice A0_1 l0_1.length c0_1) := (blk_cell BK109001.out 1).trans rfl
        have hcz14_2 : wr.cell? ⟨gb109001, 2, none⟩ = some (.int .i64 a0_2) := (blk_cell BK109001.out 2).trans rfl
        go_wp2_with (first | ((with_reducible refine gate_callee (f := 76) rfl ?_); refine goesL_ (some 18) rfl rfl Try.func76 (by kernel_rfl) rfl #[.agg #[.slice A0_0 l0_0.length c0_0, .slice A0_1 l0_1.length c0_1, .int .i64 a0_2], .int .i64 x1_1] rfl (by (try simp only [List.map_toArray, List.map_cons, List.map_nil]); first | done | rfl | (simp only [List.length_drop, List.length_take]; rfl)) ?_; (with_reducible refine (spec_l08Free.calls k1 _ _ l0_0 _ _ l0_1 a0_2 x1_1 t109005 _ ?side1 ?side2 ?side3 ?side4 A7.out).mono ?_); (case side1 => exact (Kd.C_below HR0_0.out HB.out)); (case side2 => exact HC0_0.out); (case side3 => exact (Kd.C_below HR0_1.out HB.out)); (case side4 => exact HC0_1.out); rintro e w15 ⟨rfl, hb⟩; refine ⟨_, rfl, ?_⟩; have n0_ := Aside0.mk (Kd.R_below (by exact HO_5.out) hb); have n1_ := Aside0.mk (blk_below BK109001.out hb); have n2_ := Aside0.mk (below_step (by exact HB.out) hb); clear HO_5; clear BK109001; clear HB; have HO_5 := n0_; have BK109001 := n1_; have HB := n2_; clear n0_ n1_ n2_; (try clear hb); (try clear hb2); (try clear hk); (try clear hi)) | ((with_reducible refine gate_builtin (b := .append) (xs := #[.tmp 22, .tmp 24]) rfl ?_); at_builtin; refine Kd.R_append (Kd.int .i64) (w0 := w) w.heap.size rfl (.tmp 22) (.tmp 24) 26 3 (.int .i64 0) 8 rfl Try.underlying26 info3 rfl (by decide) (by omega) u5 x5_1 t109005 [.int .i64 t109005] (fun _ => True) (fun _ => False) rfl rfl ?aP (fun _ hk => hk.elim) ?aF ?aO ?aB ?aS ?aL ?_; (case aP => exact rfl); (case aB => exact (by exact HB.out)); (case aF => exact (fun _ _ => trivial)); (case aO => exact (by exact HO_5.out)); (case aS => exact (below_size (by exact HB.out))); (case aL => have := LMc11.out; omega); intro v109007 w16 ho hb hg hat; rw [← Ny109006.out] at ho; have n0_ := Aside0.mk (blk_grown (g := gb109001) (o := .cells #[.slice A0_0 l0_0.length c0_0, .slice A0_1 l0_1.length c0_1, .int .i64 a0_2] 35 (0, 0)) BK109001.out hg (Kd.R_ne HO_5.out BK109001.out (by decide))); have n1_ := Aside0.mk (hb); have n2_ := Aside0.mk (ho); clear BK109001; clear HB; clear HO_5; have BK109001 := n0_; have HB := n1_; have HO109008 := n2_; clear n0_ n1_ n2_; clear ho hb hg hat; have hcz17_0 : w16.cell? ⟨gb109001, 0, none⟩ = some (.slice A0_0 l0_0.length c0_0) := (blk_cell BK109001.out 0).trans rfl; have hcz17_1 : w16.cell? ⟨gb109001, 1, none⟩ = some (.slice A0_1 l0_1.length c0_1) := (blk_cell BK109001.out 1).trans rfl; have hcz17_2 : w16.cell? ⟨gb109001, 2, none⟩ = some (.int .i64 a0_2) := (blk_cell BK109001.out 2).trans rfl; have p109009 : 0 ≤ (t109005 : Int) := of_decide_eq_true (by with_reducible assumption); have q109009 : t109005 < (l0_1.length : Int) := of_decide_eq_true (by with_reducible assumption); obtain ⟨ad109009, e109009, hx109009_0, hx109009_1, hx109009_2, hx109009_3, hx109009_4⟩ := at_T90 HR0_1.out t109005 p109009 q109009; cases e109009; replace hx109009_0 := (HB.out.cell (World.block_lt_of_cell? w _ hx109009_0)).trans hx109009_0; replace hx109009_1 := (HB.out.cell (World.block_lt_of_cell? w _ hx109009_1)).trans hx109009_1; replace hx109009_2 := (HB.out.cell (World.block_lt_of_cell? w _ hx109009_2)).trans hx109009_2; replace hx109009_3 := (HB.out.cell (World.block_lt_of_cell? w _ hx109009_3)).trans hx109009_3; replace hx109009_4 := (HB.out.cell (World.block_lt_of_cell? w _ hx109009_4)).trans hx109009_4; replace p109009 := eq_true p109009; replace q109009 := eq_true q109009))
        go_roundg k1
        case measure => have := HK1.out; omega
        case rel => exact ⟨((rd_T90 l0_1 t109005).f0), (y109006), (wrap64 (x6_1 + 1)), (by first | rfl | (simp; done) | (simp [*]; done)), (by first | rfl | (simp; done) | (simp [*]; done)), H', ⟨by have := HK1.out; omega⟩, ⟨by (with_reducible repeat (first | apply Kd.R_alloc | apply Kd.R_drewN | apply Kd.R_drew)); exact HO109008.out⟩, ⟨by (with_reducible repeat (first | refine blk_drewN ?_ _ | refine blk_drew ?_ | refine blk_alloc ?_ _)); exact BK109001.out⟩, ⟨by repeat (first | (with_reducible first | exact HB.out | apply below_alloc | apply pw_below_drewN | apply below_drew1 | refine below_set ?_ GE109001.out) | exact HB.out)⟩⟩
       ·rw [if_neg c13] at H
        exact absurd H (by simp)
      ·rw [if_neg c12] at H
       exact absurd H (by simp)
     ·rw [if_neg c11] at H
      exact absurd H (by simp)
   ·rw [if_neg c6] at H
    have c6b0 : decide (x6_1 ≤ (l0_0.length : Int)) = false := decide_eq_false c6
    clear c6
    obtain rfl := Option.some.inj H
    have hcz18_0 : wr.cell? ⟨gb109001, 0, none⟩ = some (.slice A0_0 l0_0.length c0_0) := (blk_cell BK109001.out 0).trans rfl
    have hcz18_1 : wr.cell? ⟨gb109001, 1, none⟩ = some (.slice A0_1 l0_1.length c0_1) := (blk_cell BK109001.out 1).trans rfl
    have hcz18_2 : wr.cell? ⟨gb109001, 2, none⟩ = some (.int .i64 a0_2) := (blk_cell BK109001.out 2).trans rfl
    go_wp2
    go_ret
    exact ⟨_, by first | rfl | (simp [errW_none, errW_some] <;> rfl) | (simp [*, errW_none, errW_some] <;> rfl), by (with_reducible repeat (first | apply Kd.R_alloc | apply Kd.R_drewN | apply Kd.R_drew)); exact HO_5.out, by repeat (first | (with_reducible first | exact HB.out | apply below_alloc | apply pw_below_drewN | apply below_drew1 | refine below_set ?_ GE109001.out) | exact HB.out)⟩

def spec_l10Free.l0 : Nat → List Int → List (S90) → Int → Int → Option (List Int)
 | 0, _, _, _, _ => none
 | k + 1, x3, x8, x9, x10 => if x10 < x9 then (if 0 ≤ x10 then (if x10 < (x8.length : Int) then (if (rd_T90 x8 x10).f4 = true then (if x3.length < 17592186044416 then (spec_l10Free.l0 k (x3 ++ [x10]) x8 x9 (wrap64 (x10 + 1))) else (none)) else (spec_l10Free.l0 k x3 x8 x9 (wrap64 (x10 + 1)))) else (none)) else (none)) else (some x3)
def spec_l10Free.f (k : Nat) (l0_0 : List (S116)) (l0_1 : List (S90)) (a0_2 : Int) : Option (List Int) := spec_l10Free.l0 k (([] : List Int)) l0_1 (l0_1.length : Int) 0
set_option maxHeartbeats 8000000 in
set_option maxRecDepth 100000 in
theorem spec_l10Free.calls (k : Nat) (A0_0 : Option Addr) (c0_0 : Nat) (l0_0 : List (S116)) (A0_1 : Option Addr) (c0_1 : Nat) (l0_1 : List (S90)) (a0_2 : Int) (r : List Int) (w : World) (hr0_0 : Kd.C k116 w A0_0 l0_0.length l0_0) (hc0_0 : l0_0.length ≤ c0_0) (hr0_1 : Kd.C k90 w A0_1 l0_1.length l0_1) (hc0_1 : l0_1.length ≤ c0_1) (h : spec_l10Free.f k l0_0 l0_1 a0_2 = some r) :
  Calls Try.prog 67 #[.agg #[.slice A0_0 l0_0.length c0_0, .slice A0_1 l0_1.length c0_1, .int .i64 a0_2]] w fun e w' => ∃ v0_ : Value, e = .returned (v0_) ∧ Kd.R (Kd.int .i64) 3 w' w.heap.size (fun _ => True) v0_ r ∧ Below w.heap.size w w' := by
 have hu35 := Try.underlying35
 have hu90 := Try.underlying90
 have HR0_0 := Aside0.mk hr0_0; have HC0_0 := Aside0.mk hc0_0; clear hr0_0 hc0_0; have HR0_1 := Aside0.mk hr0_1; have HC0_1 := Aside0.mk hc0_1; clear hr0_1 hc0_1
 have HB := Aside0.mk (Below.refl w.heap.size w)
 have H : (spec_l10Free.l0 k (([] : List Int)) l0_1 (l0_1.length : Int) 0) = some r := h
 clear h
 obtain ⟨y67002, hy67002⟩ : ∃ y_ : List Int, y_ = (([] : List Int)) := ⟨_, rfl⟩
 replace H : (spec_l10Free.l0 k y67002 l0_1 (l0_1.length : Int) 0) = some r := by first | (rw [hy67002]; with_reducible exact H) | (have H2_ := (Option.bind_some _ _).symm.trans H; rw [hy67002]; with_reducible exact H2_) | (have H2_ := (Option.bind_some _ _).symm.trans H; with_reducible exact H2_) | with_reducible exact H | (rw [hy67002]; exact H) | exact H
 have Ny67002 := Aside0.mk hy67002; clear hy67002
 have H' := Aside0.mk H
 clear H
 go_enter Try.func67, Try.ntmps67
 go_wp2_with (first | ((with_reducible refine gate_dst (N := 1) rfl ?_); refine box_event ?hg (N := 1) ?hd (cs := #[.slice A0_0 l0_0.length c0_0, .slice A0_1 l0_1.length c0_1, .int .i64 a0_2]) (t := 35) ?hr ?_; (case hd => rfl); (case hg => rfl); (case hr => first | (go_simp; done) | (go_simp; rfl)); intro gb67001 hg w2 hbox hb; have n0_ := Aside0.mk (below_step (by exact HB.out) hb); have n1_ := Aside0.mk (hbox); have n2_ := Aside0.mk ((by rw [hg]; exact (below_size (by exact HB.out)) : w.heap.size ≤ gb67001)); have n3_ := n2_; clear HB; have HB := n0_; have BK67001 := n1_; have GW67001 := n2_; have GE67001 := n3_; clear n0_ n1_ n2_ n3_; clear hb hbox hg) | ((with_reducible refine gate_dst (N := 6) rfl ?_); refine Kd.R_lit (Kd.int .i64) _ 3 ?hg (N := 6) ?hd (xs := ([] : List Int)) (inner := []) (ok := fun _ => True) (okp := fun _ => True) ?hr ?hp (fun _ hk => hk) trivial (Below.refl _ _) (Nat.le_refl _) (by simp) ?_; (case hd => rfl); (case hg => rfl); (case hr => first | (go_simp; done) | (go_simp; rfl)); (case hp => exact (Reps.none _ _)); intro v67003 w3 ho4 hb hg_ hnew_; clear hg_ hnew_; (first | rw [← Ny67002.out] at ho4 | (simp only [Int.reduceToNat] at ho4; rw [← Ny67002.out] at ho4)); have n0_ := Aside0.mk (Kd.R_lower ho4 (below_size (by exact HB.out))); have n1_ := Aside0.mk (blk_below (g := gb67001) (o := .cells #[.slice A0_0 l0_0.length c0_0, .slice A0_1 l0_1.length c0_1, .int .i64 a0_2] 35 (0, 0)) BK67001.out hb); have n2_ := Aside0.mk (below_step (by exact HB.out) hb); clear BK67001; clear HB; have HO67004 := n0_; have BK67001 := n1_; have HB := n2_; clear n0_ n1_ n2_; clear hb ho4; have hcz5_0 : w3.cell? ⟨gb67001, 0, none⟩ = some (.slice A0_0 l0_0.length c0_0) := (blk_cell BK67001.out 0).trans rfl; have hcz5_1 : w3.cell? ⟨gb67001, 1, none⟩ = some (.slice A0_1 l0_1.length c0_1) := (blk_cell BK67001.out 1).trans rfl; have hcz5_2 : w3.cell? ⟨gb67001, 2, none⟩ = some (.int .i64 a0_2) := (blk_cell BK67001.out 2).trans rfl; have hfz5_0 := blk_frozen BK67001.out 0; have hfz5_1 := blk_frozen BK67001.out 1; have hfz5_2 := blk_frozen BK67001.out 2))
 go_loopg [3, 10] k (fun kq v3 v10 w' => ∃ (x3_1 : List Int) (x10_1 : Int), v10 = .int .i64 x10_1 ∧ Aside0 (spec_l10Free.l0 kq x3_1 l0_1 (l0_1.length : Int) x10_1 = some r) ∧ Aside0 (kq ≤ k) ∧ Aside0 (Kd.R (Kd.int .i64) 3 w' w.heap.size (fun _ => True) v3 x3_1) ∧ Aside0 (w'.heap[gb67001]? = some (.cells #[(.slice A0_0 l0_0.length c0_0), (.slice A0_1 l0_1.length c0_1), .int .i64 a0_2] 35 (0, 0))) ∧ Aside0 (Below w.heap.size w w'))
 case atStart => exact ⟨(y67002), (0), (by first | rfl | (simp; done) | (simp [*]; done)), H', ⟨Nat.le_refl _⟩, ⟨by (with_reducible repeat (first | apply Kd.R_alloc | apply Kd.R_drewN | apply Kd.R_drew)); exact HO67004.out⟩, ⟨by (with_reducible repeat (first | refine blk_drewN ?_ _ | refine blk_drew ?_ | refine blk_alloc ?_ _)); exact BK67001.out⟩, ⟨by repeat (first | (with_reducible first | exact HB.out | apply below_alloc | apply pw_below_drewN | apply below_drew1 | refine below_set ?_ GE67001.out) | exact HB.out)⟩⟩
 case round =>
  clear H'
  try clear p2
  obtain ⟨x3_1, x10_1, rfl, HA, HK1, HO_3, BK67001, HB⟩ := hrel
  cases gk with
  | zero => exact absurd HA.out (by simp [spec_l10Free.l0])
  | succ k1 =>
   have H := HA.out
   clear HA
   simp only [spec_l10Free.l0] at H
   by_cases c6 : x10_1 < (l0_1.length : Int)
   ·rw [if_pos c6] at H
    have c6b0 : decide (x10_1 < (l0_1.length : Int)) = true := decide_eq_true c6
    clear c6
    by_cases c7 : 0 ≤ x10_1
    ·rw [if_pos c7] at H
     have c7b0 : decide (0 ≤ x10_1) = true := decide_eq_true c7
     clear c7
     by_cases c8 : x10_1 < (l0_1.length : Int)
     ·rw [if_pos c8] at H
      have c8b0 : decide (x10_1 < (l0_1.length : Int)) = true := decide_eq_true c8
      clear c8
      obtain ⟨bq9, hbq9⟩ : ∃ b_ : Bool, b_ = ((rd_T90 l0_1 x10_1).f4) := ⟨_, rfl⟩
      replace H : (if bq9 = true then (if x3_1.length < 17592186044416 then (spec_l10Free.l0 k1 (x3_1 ++ [x10_1]) l0_1 (l0_1.length : Int) (wrap64 (x10_1 + 1))) else (none)) else (spec_l10Free.l0 k1 x3_1 l0_1 (l0_1.length : Int) (wrap64 (x10_1 + 1)))) = some r := by rw [← hbq9] at H; exact H
      have Nbq9 := Aside0.mk hbq9; clear hbq9
      by_cases c10 : bq9 = true
      ·subst c10
       have H1 : (if x3_1.length < 17592186044416 then (spec_l10Free.l0 k1 (x3_1 ++ [x10_1]) l0_1 (l0_1.length : Int) (wrap64 (x10_1 + 1))) else (none)) = some r := by rw [if_pos rfl] at H; exact H
       clear H
       have H := H1
       clear H1
       by_cases c11 : x3_1.length < 17592186044416
       ·rw [if_pos c11] at H
        have LMc11 := Aside0.mk c11; clear c11
        obtain ⟨y67007, hy67007⟩ : ∃ y_ : List Int, y_ = (x3_1 ++ [x10_1]) := ⟨_, rfl⟩
        replace H : (spec_l10Free.l0 k1 y67007 l0_1 (l0_1.length : Int) (wrap64 (x10_1 + 1))) = some r := by first | (rw [hy67007]; with_reducible exact H) | (have H2_ := (Option.bind_some _ _).symm.trans H; rw [hy67007]; with_reducible exact H2_) | (have H2_ := (Option.bind_some _ _).symm.trans H; with_reducible exact H2_) | with_reducible exact H | (rw [hy67007]; exact H) | exact H
        have Ny67007 := Aside0.mk hy67007; clear hy67007
        have H' := Aside0.mk H
        clear H
        have p67005 : 0 ≤ (x10_1 : Int) := of_decide_eq_true (by with_reducible assumption)
        have q67005 : x10_1 < (l0_1.length : Int) := of_decide_eq_true (by with_reducible assumption)
        obtain ⟨ad67005, e67005, hx67005_0, hx67005_1, hx67005_2, hx67005_3, hx67005_4⟩ := at_T90 HR0_1.out x10_1 p67005 q67005
        (try rw [← Nbq9.out] at hx67005_4)
        cases e67005
        replace hx67005_0 := (HB.out.cell (World.block_lt_of_cell? w _ hx67005_0)).trans hx67005_0
        replace hx67005_1 := (HB.out.cell (World.block_lt_of_cell? w _ hx67005_1)).trans hx67005_1
        replace hx67005_2 := (HB.out.cell (World.block_lt_of_cell? w _ hx67005_2)).trans hx67005_2
        replace hx67005_3 := (HB.out.cell (World.block_lt_of_cell? w _ hx67005_3)).trans hx67005_3
        replace hx67005_4 := (HB.out.cell (World.block_lt_of_cell? w _ hx67005_4)).trans hx67005_4
        replace p67005 := eq_true p67005
        replace q67005 := eq_true q67005
        go_wp2_with (first | ((with_reducible refine gate_dst (N := 5) rfl ?_); refine box_event ?hg (N := 5) ?hd (cs := #[.int .i64 0, .int .i64 0, .int .i64 0, .int .i64 0, .bool false]) (t := 90) ?hr ?_; (case hd => rfl); (case hg => rfl); (case hr => first | (go_simp; done) | (go_simp; rfl)); intro gb67006 hg w12 hbox hb; have n0_ := Aside0.mk (Kd.R_below (by exact HO_3.out) hb); have n1_ := Aside0.mk (blk_below (g := gb67001) (o := .cells #[.slice A0_0 l0_0.length c0_0, .slice (some ad67005) l0_1.length c0_1, .int .i64 a0_2] 35 (0, 0)) BK67001.out hb); have n2_ := Aside0.mk (below_step (by exact HB.out) hb); have n3_ := Aside0.mk (hbox); have n4_ := Aside0.mk ((by rw [hg]; exact (below_size (by exact HB.out)) : w.heap.size ≤ gb67006)); have n5_ := n4_; have n6_ := Aside0.mk ((by rw [hg]; exact Nat.ne_of_lt (blk_lt (g := gb67001) (o := .cells #[.slice A0_0 l0_0.length c0_0, .slice (some ad67005) l0_1.length c0_1, .int .i64 a0_2] 35 (0, 0)) BK67001.out) : gb67001 ≠ gb67006)); have n7_ := Aside0.mk n6_.out.symm; clear HO_3; clear BK67001; clear HB; have HO_3 := n0_; have BK67001 := n1_; have HB := n2_; have BK67006 := n3_; have GW67006 := n4_; have GE67006 := n5_; have NB67001_67006 := n6_; have NB67006_67001 := n7_; clear n0_ n1_ n2_ n3_ n4_ n5_ n6_ n7_; clear hb hbox hg; have hnb13 := NB67006_67001.out; have hnc13 := NB67001_67006.out; have hcz14_0 : w12.cell? ⟨gb67006, 0, none⟩ = some (.int .i64 0) := (blk_cell BK67006.out 0).trans rfl; have hcz14_1 : w12.cell? ⟨gb67006, 1, none⟩ = some (.int .i64 0) := (blk_cell BK67006.out 1).trans rfl; have hcz14_2 : w12.cell? ⟨gb67006, 2, none⟩ = some (.int .i64 0) := (blk_cell BK67006.out 2).trans rfl; have hcz14_3 : w12.cell? ⟨gb67006, 3, none⟩ = some (.int .i64 0) := (blk_cell BK67006.out 3).trans rfl; have hcz14_4 : w12.cell? ⟨gb67006, 4, none⟩ = some (.bool false) := (blk_cell BK67006.out 4).trans rfl; have hfz14_0 := blk_frozen BK67006.out 0; have hfz14_1 := blk_frozen BK67006.out 1; have hfz14_2 := blk_frozen BK67006.out 2; have hfz14_3 := blk_frozen BK67006.out 3; have hfz14_4 := blk_frozen BK67006.out 4) | ((with_reducible refine gate_builtin (b := .append) (xs := #[.tmp 17, .tmp 19]) rfl ?_); at_builtin; refine Kd.R_append (Kd.int .i64) (w0 := w) w.heap.size rfl (.tmp 17) (.tmp 19) 26 3 (.int .i64 0) 8 rfl Try.underlying26 info3 rfl (by decide) (by omega) u3 x3_1 x10_1 [.int .i64 x10_1] (fun _ => True) (fun _ => False) rfl (by first | (go_simp; done) | (go_simp; rfl)) ?aP (fun _ hk => hk.elim) ?aF ?aO ?aB ?aS ?aL ?_; (case aP => exact rfl); (case aB => exact (by repeat (first | (with_reducible first | exact HB.out | apply below_alloc | apply pw_below_drewN | apply below_drew1 | refine below_set ?_ GE67001.out | refine below_set ?_ GE67006.out) | exact HB.out))); (case aF => exact (fun _ _ => trivial)); (case aO => exact (by (with_reducible repeat (first | apply Kd.R_alloc | apply Kd.R_drewN | apply Kd.R_drew)); exact Kd.R_mono (Kd.R_far (p := ⟨gb67006, 4, none⟩) (Kd.R_far (p := ⟨gb67006, 3, none⟩) (Kd.R_far (p := ⟨gb67006, 2, none⟩) (Kd.R_far (p := ⟨gb67006, 1, none⟩) (Kd.R_far (p := ⟨gb67006, 0, none⟩) (Kd.R_types HO_3.out BK67006.out (by decide)) (fun _ hk => hk.2) (.int .i64 ((rd_T90 l0_1 x10_1).f0))) (fun _ hk => hk.2) (.int .i64 ((rd_T90 l0_1 x10_1).f1))) (fun _ hk => hk.2) (.int .i64 ((rd_T90 l0_1 x10_1).f2))) (fun _ hk => hk.2) (.int .i64 ((rd_T90 l0_1 x10_1).f3))) (fun _ hk => hk.2) (.bool true)) (fun _ hk => trivial))); (case aS => exact (below_size (by repeat (first | (with_reducible first | exact HB.out | apply below_alloc | apply pw_below_drewN | apply below_drew1 | refine below_set ?_ GE67001.out | refine below_set ?_ GE67006.out) | exact HB.out)))); (case aL => have := LMc11.out; omega); intro v67008 w15 ho hb hg hat; rw [← Ny67007.out] at ho; have n0_ := Aside0.mk (blk_grown (g := gb67001) (o := .cells #[.slice A0_0 l0_0.length c0_0, .slice (some ad67005) l0_1.length c0_1, .int .i64 a0_2] 35 (0, 0)) (by (with_reducible repeat (first | refine blk_drewN ?_ _ | refine blk_drew ?_ | refine blk_alloc ?_ _)); refine blk_far ?_ NB67001_67006.out _; (with_reducible repeat (first | refine blk_drewN ?_ _ | refine blk_drew ?_ | refine blk_alloc ?_ _)); refine blk_far ?_ NB67001_67006.out _; (with_reducible repeat (first | refine blk_drewN ?_ _ | refine blk_drew ?_ | refine blk_alloc ?_ _)); refine blk_far ?_ NB67001_67006.out _; (with_reducible repeat (first | refine blk_drewN ?_ _ | refine blk_drew ?_ | refine blk_alloc ?_ _)); refine blk_far ?_ NB67001_67006.out _; (with_reducible repeat (first | refine blk_drewN ?_ _ | refine blk_drew ?_ | refine blk_alloc ?_ _)); refine blk_far ?_ NB67001_67006.out _; (with_reducible repeat (first | refine blk_drewN ?_ _ | refine blk_drew ?_ | refine blk_alloc ?_ _)); exact BK67001.out) hg (Kd.R_ne HO_3.out BK67001.out (by decide))); have n1_ := Aside0.mk (blk_grown (g := gb67006) (o := .cells #[.int .i64 ((rd_T90 l0_1 x10_1).f0), .int .i64 ((rd_T90 l0_1 x10_1).f1), .int .i64 ((rd_T90 l0_1 x10_1).f2), .int .i64 ((rd_T90 l0_1 x10_1).f3), .bool true] 90 (0, 0)) (by (with_reducible repeat (first | refine blk_drewN ?_ _ | refine blk_drew ?_ | refine blk_alloc ?_ _)); refine blk_put (cs := #[.int .i64 ((rd_T90 l0_1 x10_1).f0), .int .i64 ((rd_T90 l0_1 x10_1).f1), .int .i64 ((rd_T90 l0_1 x10_1).f2), .int .i64 ((rd_T90 l0_1 x10_1).f3), .bool false]) ?_ 4 _ rfl; (with_reducible repeat (first | refine blk_drewN ?_ _ | refine blk_drew ?_ | refine blk_alloc ?_ _)); refine blk_put (cs := #[.int .i64 ((rd_T90 l0_1 x10_1).f0), .int .i64 ((rd_T90 l0_1 x10_1).f1), .int .i64 ((rd_T90 l0_1 x10_1).f2), .int .i64 0, .bool false]) ?_ 3 _ rfl; (with_reducible repeat (first | refine blk_drewN ?_ _ | refine blk_drew ?_ | refine blk_alloc ?_ _)); refine blk_put (cs := #[.int .i64 ((rd_T90 l0_1 x10_1).f0), .int .i64 ((rd_T90 l0_1 x10_1).f1), .int .i64 0, .int .i64 0, .bool false]) ?_ 2 _ rfl; (with_reducible repeat (first | refine blk_drewN ?_ _ | refine blk_drew ?_ | refine blk_alloc ?_ _)); refine blk_put (cs := #[.int .i64 ((rd_T90 l0_1 x10_1).f0), .int .i64 0, .int .i64 0, .int .i64 0, .bool false]) ?_ 1 _ rfl; (with_reducible repeat (first | refine blk_drewN ?_ _ | refine blk_drew ?_ | refine blk_alloc ?_ _)); refine blk_put (cs := #[.int .i64 0, .int .i64 0, .int .i64 0, .int .i64 0, .bool false]) ?_ 0 _ rfl; (with_reducible repeat (first | refine blk_drewN ?_ _ | refine blk_drew ?_ | refine blk_alloc ?_ _)); exact BK67006.out) hg (Kd.R_ne HO_3.out BK67006.out (by decide))); have n2_ := Aside0.mk (hb); have n3_ := Aside0.mk (ho); clear BK67001; clear BK67006; clear HB; clear HO_3; have BK67001 := n0_; have BK67006 := n1_; have HB := n2_; have HO67009 := n3_; clear n0_ n1_ n2_ n3_; clear ho hb hg hat))
        go_roundg k1
        case measure => have := HK1.out; omega
        case rel => exact ⟨(y67007), (wrap64 (x10_1 + 1)), (by first | rfl | (simp; done) | (simp [*]; done)), H', ⟨by have := HK1.out; omega⟩, ⟨by (with_reducible repeat (first | apply Kd.R_alloc | apply Kd.R_drewN | apply Kd.R_drew)); exact HO67009.out⟩, ⟨by (with_reducible repeat (first | refine blk_drewN ?_ _ | refine blk_drew ?_ | refine blk_alloc ?_ _)); exact BK67001.out⟩, ⟨by repeat (first | (with_reducible first | exact HB.out | apply below_alloc | apply pw_below_drewN | apply below_drew1 | refine below_set ?_ GE67001.out | refine below_set ?_ GE67006.out) | exact HB.out)⟩⟩
       ·rw [if_neg c11] at H
        exact absurd H (by simp)
      ·replace c10 := Bool.eq_false_iff.mpr c10
       subst c10
       have H1 : (spec_l10Free.l0 k1 x3_1 l0_1 (l0_1.length : Int) (wrap64 (x10_1 + 1))) = some r := by rw [if_neg (show ¬ (false = true) by decide)] at H; exact H
       clear H
       have H := H1
       clear H1
       have H' := Aside0.mk H
       clear H
       have p67005 : 0 ≤ (x10_1 : Int) := of_decide_eq_true (by with_reducible assumption)
       have q67005 : x10_1 < (l0_1.length : Int) := of_decide_eq_true (by with_reducible assumption)
       obtain ⟨ad67005, e67005, hx67005_0, hx67005_1, hx67005_2, hx67005_3, hx67005_4⟩ := at_T90 HR0_1.out x10_1 p67005 q67005
       (try rw [← Nbq9.out] at hx67005_4)
       cases e67005
       replace hx67005_0 := (HB.out.cell (World.block_lt_of_cell? w _ hx67005_0)).trans hx67005_0
       replace hx67005_1 := (HB.out.cell (World.block_lt_of_cell? w _ hx67005_1)).trans hx67005_1
       replace hx67005_2 := (HB.out.cell (World.block_lt_of_cell? w _ hx67005_2)).trans hx67005_2
       replace hx67005_3 := (HB.out.cell (World.block_lt_of_cell? w _ hx67005_3)).trans hx67005_3
       replace hx67005_4 := (HB.out.cell (World.block_lt_of_cell? w _ hx67005_4)).trans hx67005_4
       replace p67005 := eq_true p67005
       replace q67005 := eq_true q67005
       go_wp2_with (first | ((with_reducible refine gate_dst (N := 5) rfl ?_); refine box_event ?hg (N := 5) ?hd (cs := #[.int .i64 0, .int .i64 0, .int .i64 0, .int .i64 0, .bool false]) (t := 90) ?hr ?_; (case hd => rfl); (case hg => rfl); (case hr => first | (go_simp; done) | (go_simp; rfl)); intro gb67006 hg w16 hbox hb; have n0_ := Aside0.mk (Kd.R_below (by exact HO_3.out) hb); have n1_ := Aside0.mk (blk_below (g := gb67001) (o := .cells #[.slice A0_0 l0_0.length c0_0, .slice (some ad67005) l0_1.length c0_1, .int .i64 a0_2] 35 (0, 0)) BK67001.out hb); have n2_ := Aside0.mk (below_step (by exact HB.out) hb); have n3_ := Aside0.mk (hbox); have n4_ := Aside0.mk ((by rw [hg]; exact (below_size (by exact HB.out)) : w.heap.size ≤ gb67006)); have n5_ := n4_; have n6_ := Aside0.mk ((by rw [hg]; exact Nat.ne_of_lt (blk_lt (g := gb67001) (o := .cells #[.slice A0_0 l0_0.length c0_0, .slice (some ad67005) l0_1.length c0_1, .int .i64 a0_2] 35 (0, 0)) BK67001.out) : gb67001 ≠ gb67006)); have n7_ := Aside0.mk n6_.out.symm; clear HO_3; clear BK67001; clear HB; have HO_3 := n0_; have BK67001 := n1_; have HB := n2_; have BK67006 := n3_; have GW67006 := n4_; have GE67006 := n5_; have NB67001_67006 := n6_; have NB67006_67001 := n7_; clear n0_ n1_ n2_ n3_ n4_ n5_ n6_ n7_; clear hb hbox hg; have hnb17 := NB67006_67001.out; have hnc17 := NB67001_67006.out; have hcz18_0 : w16.cell? ⟨gb67006, 0, none⟩ = some (.int .i64 0) := (blk_cell BK67006.out 0).trans rfl; have hcz18_1 : w16.cell? ⟨gb67006, 1, none⟩ = some (.int .i64 0) := (blk_cell BK67006.out 1).trans rfl; have hcz18_2 : w16.cell? ⟨gb67006, 2, none⟩ = some (.int .i64 0) := (blk_cell BK67006.out 2).trans rfl; have hcz18_3 : w16.cell? ⟨gb67006, 3, none⟩ = some (.int .i64 0) := (blk_cell BK67006.out 3).trans rfl; have hcz18_4 : w16.cell? ⟨gb67006, 4, none⟩ = some (.bool false) := (blk_cell BK67006.out 4).trans rfl; have hfz18_0 := blk_frozen BK67006.out 0; have hfz18_1 := blk_frozen BK67006.out 1; have hfz18_2 := blk_frozen BK67006.out 2; have hfz18_3 := blk_frozen BK67006.out 3; have hfz18_4 := blk_frozen BK67006.out 4))
       go_roundg k1
       case measure => have := HK1.out; omega
       case rel => exact ⟨(x3_1), (wrap64 (x10_1 + 1)), (by first | rfl | (simp; done) | (simp [*]; done)), H', ⟨by have := HK1.out; omega⟩, ⟨by (with_reducible repeat (first | apply Kd.R_alloc | apply Kd.R_drewN | apply Kd.R_drew)); exact Kd.R_mono (Kd.R_far (p := ⟨gb67006, 4, none⟩) (Kd.R_far (p := ⟨gb67006, 3, none⟩) (Kd.R_far (p := ⟨gb67006, 2, none⟩) (Kd.R_far (p := ⟨gb67006, 1, none⟩) (Kd.R_far (p := ⟨gb67006, 0, none⟩) (Kd.R_types HO_3.out BK67006.out (by decide)) (fun _ hk => hk.2) (.int .i64 ((rd_T90 l0_1 x10_1).f0))) (fun _ hk => hk.2) (.int .i64 ((rd_T90 l0_1 x10_1).f1))) (fun _ hk => hk.2) (.int .i64 ((rd_T90 l0_1 x10_1).f2))) (fun _ hk => hk.2) (.int .i64 ((rd_T90 l0_1 x10_1).f3))) (fun _ hk => hk.2) (.bool false)) (fun _ hk => trivial)⟩, ⟨by (with_reducible repeat (first | refine blk_drewN ?_ _ | refine blk_drew ?_ | refine blk_alloc ?_ _)); refine blk_far ?_ NB67001_67006.out _; (with_reducible repeat (first | refine blk_drewN ?_ _ | refine blk_drew ?_ | refine blk_alloc ?_ _)); refine blk_far ?_ NB67001_67006.out _; (with_reducible repeat (first | refine blk_drewN ?_ _ | refine blk_drew ?_ | refine blk_alloc ?_ _)); refine blk_far ?_ NB67001_67006.out _; (with_reducible repeat (first | refine blk_drewN ?_ _ | refine blk_drew ?_ | refine blk_alloc ?_ _)); refine blk_far ?_ NB67001_67006.out _; (with_reducible repeat (first | refine blk_drewN ?_ _ | refine blk_drew ?_ | refine blk_alloc ?_ _)); refine blk_far ?_ NB67001_67006.out _; (with_reducible repeat (first | refine blk_drewN ?_ _ | refine blk_drew ?_ | refine blk_alloc ?_ _)); exact BK67001.out⟩, ⟨by repeat (first | (with_reducible first | exact HB.out | apply below_alloc | apply pw_below_drewN | apply below_drew1 | refine below_set ?_ GE67001.out | refine below_set ?_ GE67006.out) | exact HB.out)⟩⟩
     ·rw [if_neg c8] at H
      exact absurd H (by simp)
    ·rw [if_neg c7] at H
     exact absurd H (by simp)
   ·rw [if_neg c6] at H
    have c6b0 : decide (x10_1 < (l0_1.length : Int)) = false := decide_eq_false c6
    clear c6
    obtain rfl := Option.some.inj H
    go_wp2
    go_ret
    exact ⟨_, by first | rfl | (simp [errW_none, errW_some] <;> rfl) | (simp [*, errW_none, errW_some] <;> rfl), by (with_reducible repeat (first | apply Kd.R_alloc | apply Kd.R_drewN | apply Kd.R_drew)); exact HO_3.out, by repeat (first | (with_reducible first | exact HB.out | apply below_alloc | apply pw_below_drewN | apply below_drew1 | refine below_set ?_ GE67001.out) | exact HB.out)⟩

def spec_l10Length.l0 : Nat → Int → List Int → Int → Int → List Int → List Int → Option (Int)
 | 0, _, _, _, _, _, _ => none
 | k + 1, x2, x10, x11, x12, x110003000, x110003001 => if x12 < x11 then (if 0 ≤ x12 then (if x12 < (x10.length : Int) then (if (rd x10 x12) = x2 then (if x12 < (x110003000.length : Int) then (some (rd x110003000 x12)) else (none)) else (spec_l10Length.l0 k x2 x10 x11 (wrap64 (x12 + 1)) x110003000 x110003001)) else (none)) else (none)) else (some 0)
def spec_l10Length.f (k : Nat) (l0_0 : List (S116)) (l0_1 : List (S90)) (a0_2 : Int) (l1_0 : List Int) (l1_1 : List Int) (a2 : Int) : Option (Int) := (spec_l10Free.f k l0_0 l0_1 a0_2).bind fun t110003 => (spec_l10Length.l0 k a2 t110003 (t110003.length : Int) 0 l1_0 l1_1)
set_option maxHeartbeats 8000000 in
set_option maxRecDepth 100000 in
theorem spec_l10Length.calls (k : Nat) (A0_0 : Option Addr) (c0_0 : Nat) (l0_0 : List (S116)) (A0_1 : Option Addr) (c0_1 : Nat) (l0_1 : List (S90)) (a0_2 : Int) (A1_0 : Option Addr) (c1_0 : Nat) (l1_0 : List Int) (A1_1 : Option Addr) (c1_1 : Nat) (l1_1 : List Int) (a2 : Int) (r : Int) (w : World) (hr0_0 : Kd.C k116 w A0_0 l0_0.length l0_0) (hc0_0 : l0_0.length ≤ c0_0) (hr0_1 : Kd.C k90 w A0_1 l0_1.length l0_1) (hc0_1 : l0_1.length ≤ c0_1) (hr1_0 : Kd.C (Kd.int .i64) w A1_0 l1_0.length l1_0) (hc1_0 : l1_0.length ≤ c1_0) (hr1_1 : Kd.C (Kd.int .i64) w A1_1 l1_1.length l1_1) (hc1_1 : l1_1.length ≤ c1_1) (h : spec_l10Length.f k l0_0 l0_1 a0_2 l1_0 l1_1 a2 = some r) :
  Calls Try.prog 110 #[.agg #[.slice A0_0 l0_0.length c0_0, .slice A0_1 l0_1.length c0_1, .int .i64 a0_2], .agg #[.slice A1_0 l1_0.length c1_0, .slice A1_1 l1_1.length c1_1], .int .i64 a2] w fun e w' => e = .returned (.int .i64 r) ∧ Below w.heap.size w w' := by
 have hu35 := Try.underlying35
 have hu37 := Try.underlying37
 have HR0_0 := Aside0.mk hr0_0; have HC0_0 := Aside0.mk hc0_0; clear hr0_0 hc0_0; have HR0_1 := Aside0.mk hr0_1; have HC0_1 := Aside0.mk hc0_1; clear hr0_1 hc0_1; have HR1_0 := Aside0.mk hr1_0; have HC1_0 := Aside0.mk hc1_0; clear hr1_0 hc1_0; have HR1_1 := Aside0.mk hr1_1; have HC1_1 := Aside0.mk hc1_1; clear hr1_1 hc1_1
 have HB := Aside0.mk (Below.refl w.heap.size w)
 have H : ((spec_l10Free.f k l0_0 l0_1 a0_2).bind fun t110003 => (spec_l10Length.l0 k a2 t110003 (t110003.length : Int) 0 l1_0 l1_1)) = some r := h
 clear h
 replace H := Option.bind_eq_some_iff.mp H
 obtain ⟨t110003, A40, H⟩ := H
 replace H : (spec_l10Length.l0 k a2 t110003 (t110003.length : Int) 0 l1_0 l1_1) = some r := H
 have A4 := Aside0.mk A40; clear A40
 have H' := Aside0.mk H
 clear H
 go_enter Try.func110, Try.ntmps110
 go_wp2_with (first | ((with_reducible refine gate_dst (N := 3) rfl ?_); refine box_event ?hg (N := 3) ?hd (cs := #[.slice A0_0 l0_0.length c0_0, .slice A0_1 l0_1.length c0_1, .int .i64 a0_2]) (t := 35) ?hr ?_; (case hd => rfl); (case hg => rfl); (case hr => first | (go_simp; done) | (go_simp; rfl)); intro gb110001 hg w5 hbox hb; have n0_ := Aside0.mk (below_step (by exact HB.out) hb); have n1_ := Aside0.mk (hbox); have n2_ := Aside0.mk ((by rw [hg]; exact (below_size (by exact HB.out)) : w.heap.size ≤ gb110001)); have n3_ := n2_; clear HB; have HB := n0_; have BK110001 := n1_; have GW110001 := n2_; have GE110001 := n3_; clear n0_ n1_ n2_ n3_; clear hb hbox hg) | ((with_reducible refine gate_dst (N := 4) rfl ?_); refine box_event ?hg (N := 4) ?hd (cs := #[.slice A1_0 l1_0.length c1_0, .slice A1_1 l1_1.length c1_1]) (t := 37) ?hr ?_; (case hd => rfl); (case hg => rfl); (case hr => first | (go_simp; done) | (go_simp; rfl)); intro gb110002 hg w6 hbox hb; have n0_ := Aside0.mk (blk_below BK110001.out hb); have n1_ := Aside0.mk (below_step (by exact HB.out) hb); have n2_ := Aside0.mk (hbox); have n3_ := Aside0.mk ((by rw [hg]; exact (below_size (by exact HB.out)) : w.heap.size ≤ gb110002)); have n4_ := n3_; have n5_ := Aside0.mk ((by rw [hg]; exact Nat.ne_of_lt (blk_lt BK110001.out) : gb110001 ≠ gb110002)); have n6_ := Aside0.mk n5_.out.symm; clear BK110001; clear HB; have BK110001 := n0_; have HB := n1_; have BK110002 := n2_; have GW110002 := n3_; have GE110002 := n4_; have NB110001_110002 := n5_; have NB110002_110001 := n6_; clear n0_ n1_ n2_ n3_ n4_ n5_ n6_; clear hb hbox hg; have hnb7 := NB110001_110002.out; have hnc7 := NB110002_110001.out; have hcz8_0 : w6.cell? ⟨gb110001, 0, none⟩ = some (.slice A0_0 l0_0.length c0_0) := (blk_cell BK110001.out 0).trans rfl; have hcz8_1 : w6.cell? ⟨gb110001, 1, none⟩ = some (.slice A0_1 l0_1.length c0_1) := (blk_cell BK110001.out 1).trans rfl; have hcz8_2 : w6.cell? ⟨gb110001, 2, none⟩ = some (.int .i64 a0_2) := (blk_cell BK110001.out 2).trans rfl; have hfz8_0 := blk_frozen BK110001.out 0; have hfz8_1 := blk_frozen BK110001.out 1; have hfz8_2 := blk_frozen BK110001.out 2) | ((with_reducible refine gate_callee (f := 67) rfl ?_); refine goesL_ (some 10) rfl rfl Try.func67 (by kernel_rfl) rfl #[.agg #[.slice A0_0 l0_0.length c0_0, .slice A0_1 l0_1.length c0_1, .int .i64 a0_2]] rfl (by (try simp only [List.map_toArray, List.map_cons, List.map_nil]); first | done | rfl | (simp only [List.length_drop, List.length_take]; rfl)) ?_; (with_reducible refine (spec_l10Free.calls k _ _ l0_0 _ _ l0_1 a0_2 t110003 _ ?side1 ?side2 ?side3 ?side4 A4.out).mono ?_); (case side1 => exact (Kd.C_below HR0_0.out HB.out)); (case side2 => exact HC0_0.out); (case side3 => exact (Kd.C_below HR0_1.out HB.out)); (case side4 => exact HC0_1.out); rintro e w9 ⟨v110004, rfl, ho0, hb⟩; refine ⟨_, rfl, ?_⟩; have n0_ := Aside0.mk (Kd.R_lower ho0 (below_size (by exact HB.out))); have n1_ := Aside0.mk (blk_below BK110001.out hb); have n2_ := Aside0.mk (blk_below BK110002.out hb); have n3_ := Aside0.mk (below_step (by exact HB.out) hb); clear BK110001; clear BK110002; clear HB; have HO110005 := n0_; have BK110001 := n1_; have BK110002 := n2_; have HB := n3_; clear n0_ n1_ n2_ n3_; (try clear hb); (try clear hb2); (try clear hk); (try clear hi); (try clear ho0); obtain ⟨Ao10, co10, eo10⟩ := Kd.R_slice HO110005.out; subst eo10))
 go_loopg [12] k (fun kq v12 w' => ∃ (x12_1 : Int), v12 = .int .i64 x12_1 ∧ Aside0 (spec_l10Length.l0 kq a2 t110003 (t110003.length : Int) x12_1 l1_0 l1_1 = some r) ∧ Aside0 (kq ≤ k) ∧ Aside0 (Kd.R (Kd.int .i64) 3 w' w.heap.size (fun _ => True) (.slice Ao10 t110003.length co10) t110003) ∧ Aside0 (w'.heap[gb110001]? = some (.cells #[(.slice A0_0 l0_0.length c0_0), (.slice A0_1 l0_1.length c0_1), .int .i64 a0_2] 35 (0, 0))) ∧ Aside0 (w'.heap[gb110002]? = some (.cells #[(.slice A1_0 l1_0.length c1_0), (.slice A1_1 l1_1.length c1_1)] 37 (0, 0))) ∧ Aside0 (Below w.heap.size w w'))
 case atStart => exact ⟨(0), (by first | rfl | (simp; done) | (simp [*]; done)), H', ⟨Nat.le_refl _⟩, ⟨by (with_reducible repeat (first | apply Kd.R_alloc | apply Kd.R_drewN | apply Kd.R_drew)); exact HO110005.out⟩, ⟨by (with_reducible repeat (first | refine blk_drewN ?_ _ | refine blk_drew ?_ | refine blk_alloc ?_ _)); exact BK110001.out⟩, ⟨by (with_reducible repeat (first | refine blk_drewN ?_ _ | refine blk_drew ?_ | refine blk_alloc ?_ _)); exact BK110002.out⟩, ⟨by repeat (first | (with_reducible first | exact HB.out | apply below_alloc | apply pw_below_drewN | apply below_drew1 | refine below_set ?_ GE110001.out | refine below_set ?_ GE110002.out) | exact HB.out)⟩⟩
 case round =>
  clear H'
  try clear c1
  try clear p2
  try clear c6
  try clear c7
  try clear hcz8_0
  try clear hcz8_1
  try clear hcz8_2
  try clear hfz8_0
  try clear hfz8_1
  try clear hfz8_2
  obtain ⟨x12_1, rfl, HA, HK1, HO_10, BK110001, BK110002, HB⟩ := hrel
  cases gk with
  | zero => exact absurd HA.out (by simp [spec_l10Length.l0])
  | succ k1 =>
   have H := HA.out
   clear HA
   simp only [spec_l10Length.l0] at H
   by_cases c11 : x12_1 < (t110003.length : Int)
   ·rw [if_pos c11] at H
    have c11b0 : decide (x12_1 < (t110003.length : Int)) = true := decide_eq_true c11
    clear c11
    by_cases c12 : 0 ≤ x12_1
    ·rw [if_pos c12] at H
     have c12b0 : decide (0 ≤ x12_1) = true := decide_eq_true c12
     clear c12
     by_cases c13 : x12_1 < (t110003.length : Int)
     ·rw [if_pos c13] at H
      have c13b0 : decide (x12_1 < (t110003.length : Int)) = true := decide_eq_true c13
      clear c13
      by_cases c14 : (rd t110003 x12_1) = a2
      ·rw [if_pos c14] at H
       have c14b0 : ((rd t110003 x12_1) == a2) = true := beq_iff_eq.mpr c14
       have c14b1 : ((rd t110003 x12_1) != a2) = false := bne_eq_false_iff_eq.mpr c14
       clear c14
       by_cases c15 : x12_1 < (l1_0.length : Int)
       ·rw [if_pos c15] at H
        have c15b0 : decide (x12_1 < (l1_0.length : Int)) = true := decide_eq_true c15
        clear c15
        obtain rfl := Option.some.inj H
        have p110006 : 0 ≤ (x12_1 : Int) := of_decide_eq_true (by with_reducible assumption)
        have q110006 : x12_1 < (t110003.length : Int) := of_decide_eq_true (by with_reducible assumption)
        obtain ⟨ad110006, e110006, hx110006_0⟩ := Kd.at_int (Kd.R_reads' HO_10.out).2.2 x12_1 p110006 q110006
        cases e110006
        replace p110006 := eq_true p110006
        replace q110006 := eq_true q110006
        have hnb16 := NB110002_110001.out
        have hnc16 := NB110001_110002.out
        have hcz17_0 : wr.cell? ⟨gb110002, 0, none⟩ = some (.slice A1_0 l1_0.length c1_0) := (blk_cell BK110002.out 0).trans rfl
        have hcz17_1 : wr.cell? ⟨gb110002, 1, none⟩ = some (.slice A1_1 l1_1.length c1_1) := (blk_cell BK110002.out 1).trans rfl
        have hfz17_0 := blk_frozen BK110002.out 0
        have hfz17_1 := blk_frozen BK110002.out 1
        have p110007 : 0 ≤ (x12_1 : Int) := of_decide_eq_true (by with_reducible assumption)
        have q110007 : x12_1 < (l1_0.length : Int) := of_decide_eq_true (by with_reducible assumption)
        obtain ⟨ad110007, e110007, hx110007_0⟩ := Kd.at_int HR1_0.out x12_1 p110007 q110007
        cases e110007
        replace hx110007_0 := (HB.out.cell (World.block_lt_of_cell? w _ hx110007_0)).trans hx110007_0
        replace p110007 := eq_true p110007
        replace q110007 := eq_true q110007
        go_wp2
        go_ret
        exact ⟨by first | rfl | (simp [errW_none, errW_some] <;> rfl) | (simp [*, errW_none, errW_some] <;> rfl), by repeat (first | (with_reducible first | exact HB.out | apply below_alloc | apply pw_below_drewN | apply below_drew1 | refine below_set ?_ GE110001.out | refine below_set ?_ GE110002.out) | exact HB.out)⟩
       ·rw [if_neg c15] at H
        exact absurd H (by simp)
      ·rw [if_neg c14] at H
       have c14b0 : ((rd t110003 x12_1) == a2) = false := beq_eq_false_iff_ne.mpr c14
       have c14b1 : ((rd t110003 x12_1) != a2) = true := bne_iff_ne.mpr c14
       have H' := Aside0.mk H
       clear H
       have p110006 : 0 ≤ (x12_1 : Int) := of_decide_eq_true (by with_reducible assumption)
       have q110006 : x12_1 < (t110003.length : Int) := of_decide_eq_true (by with_reducible assumption)
       obtain ⟨ad110006, e110006, hx110006_0⟩ := Kd.at_int (Kd.R_reads' HO_10.out).2.2 x12_1 p110006 q110006
       cases e110006
       replace p110006 := eq_true p110006
       replace q110006 := eq_true q110006
       go_wp2
       go_roundg k1
       case measure => have := HK1.out; omega
       case rel => exact ⟨(wrap64 (x12_1 + 1)), (by first | rfl | (simp; done) | (simp [*]; done)), H', ⟨by have := HK1.out; omega⟩, ⟨by (with_reducible repeat (first | apply Kd.R_alloc | apply Kd.R_drewN | apply Kd.R_drew)); exact HO_10.out⟩, ⟨by (with_reducible repeat (first | refine blk_drewN ?_ _ | refine blk_drew ?_ | refine blk_alloc ?_ _)); exact BK110001.out⟩, ⟨by (with_reducible repeat (first | refine blk_drewN ?_ _ | refine blk_drew ?_ | refine blk_alloc ?_ _)); exact BK110002.out⟩, ⟨by repeat (first | (with_reducible first | exact HB.out | apply below_alloc | apply pw_below_drewN | apply below_drew1 | refine below_set ?_ GE110001.out | refine below_set ?_ GE110002.out) | exact HB.out)⟩⟩
     ·rw [if_neg c13] at H
      exact absurd H (by simp)
    ·rw [if_neg c12] at H
     exact absurd H (by simp)
   ·rw [if_neg c11] at H
    have c11b0 : decide (x12_1 < (t110003.length : Int)) = false := decide_eq_false c11
    clear c11
    obtain rfl := Option.some.inj H
    go_wp2
    go_ret
    exact ⟨by first | rfl | (simp [errW_none, errW_some] <;> rfl) | (simp [*, errW_none, errW_some] <;> rfl), by repeat (first | (with_reducible first | exact HB.out | apply below_alloc | apply pw_below_drewN | apply below_drew1 | refine below_set ?_ GE110001.out | refine below_set ?_ GE110002.out) | exact HB.out)⟩

def spec_NodeNamed.l0 : Nat → ByteArray → List (S116) → Int → Int → Option (Int)
 | 0, _, _, _, _ => none
 | k + 1, x1, x8, x9, x10 => if x10 < x9 then (if 0 ≤ x10 then (if x10 < (x8.length : Int) then (if ((rd_T116 x8 x10).f0).toList = x1.toList then (some x10) else (spec_NodeNamed.l0 k x1 x8 x9 (wrap64 (x10 + 1)))) else (none)) else (none)) else (some (-1))
def spec_NodeNamed.f (k : Nat) (l0_0 : List (S116)) (l0_1 : List (S90)) (a0_2 : Int) (a1 : ByteArray) : Option (Int) := spec_NodeNamed.l0 k a1 l0_0 (l0_0.length : Int) 0
set_option maxHeartbeats 8000000 in
set_option maxRecDepth 100000 in
theorem spec_NodeNamed.calls (k : Nat) (A0_0 : Option Addr) (c0_0 : Nat) (l0_0 : List (S116)) (A0_1 : Option Addr) (c0_1 : Nat) (l0_1 : List (S90)) (a0_2 : Int) (a1 : ByteArray) (r : Int) (w : World) (hr0_0 : Kd.C k116 w A0_0 l0_0.length l0_0) (hc0_0 : l0_0.length ≤ c0_0) (hr0_1 : Kd.C k90 w A0_1 l0_1.length l0_1) (hc0_1 : l0_1.length ≤ c0_1) (h : spec_NodeNamed.f k l0_0 l0_1 a0_2 a1 = some r) :
  Calls Try.prog 154 #[.agg #[.slice A0_0 l0_0.length c0_0, .slice A0_1 l0_1.length c0_1, .int .i64 a0_2], .string a1] w fun e w' => e = .returned (.int .i64 r) ∧ Below w.heap.size w w' := by
 have hu35 := Try.underlying35
 have hu116 := Try.underlying116
 have HR0_0 := Aside0.mk hr0_0; have HC0_0 := Aside0.mk hc0_0; clear hr0_0 hc0_0; have HR0_1 := Aside0.mk hr0_1; have HC0_1 := Aside0.mk hc0_1; clear hr0_1 hc0_1
 have HB := Aside0.mk (Below.refl w.heap.size w)
 have H : (spec_NodeNamed.l0 k a1 l0_0 (l0_0.length : Int) 0) = some r := h
 clear h
 have H' := Aside0.mk H
 clear H
 go_enter Try.func154, Try.ntmps154
 go_wp2_with (first | ((with_reducible refine gate_dst (N := 2) rfl ?_); refine box_event ?hg (N := 2) ?hd (cs := #[.slice A0_0 l0_0.length c0_0, .slice A0_1 l0_1.length c0_1, .int .i64 a0_2]) (t := 35) ?hr ?_; (case hd => rfl); (case hg => rfl); (case hr => first | (go_simp; done) | (go_simp; rfl)); intro gb154001 hg w3 hbox hb; have n0_ := Aside0.mk (below_step (by exact HB.out) hb); have n1_ := Aside0.mk (hbox); have n2_ := Aside0.mk ((by rw [hg]; exact (below_size (by exact HB.out)) : w.heap.size ≤ gb154001)); have n3_ := n2_; clear HB; have HB := n0_; have BK154001 := n1_; have GW154001 := n2_; have GE154001 := n3_; clear n0_ n1_ n2_ n3_; clear hb hbox hg; have hcz4_0 : w3.cell? ⟨gb154001, 0, none⟩ = some (.slice A0_0 l0_0.length c0_0) := (blk_cell BK154001.out 0).trans rfl; have hcz4_1 : w3.cell? ⟨gb154001, 1, none⟩ = some (.slice A0_1 l0_1.length c0_1) := (blk_cell BK154001.out 1).trans rfl; have hcz4_2 : w3.cell? ⟨gb154001, 2, none⟩ = some (.int .i64 a0_2) := (blk_cell BK154001.out 2).trans rfl; have hfz4_0 := blk_frozen BK154001.out 0; have hfz4_1 := blk_frozen BK154001.out 1; have hfz4_2 := blk_frozen BK154001.out 2))
 go_loopg [10] k (fun kq v10 w' => ∃ (x10_1 : Int), v10 = .int .i64 x10_1 ∧ Aside0 (spec_NodeNamed.l0 kq a1 l0_0 (l0_0.length : Int) x10_1 = some r) ∧ Aside0 (kq ≤ k) ∧ Aside0 (w'.heap[gb154001]? = some (.cells #[(.slice A0_0 l0_0.length c0_0), (.slice A0_1 l0_1.length c0_1), .int .i64 a0_2] 35 (0, 0))) ∧ Aside0 (Below w.heap.size w w'))
 case atStart => exact ⟨(0), (by first | rfl | (simp; done) | (simp [*]; done)), H', ⟨Nat.le_refl _⟩, ⟨by (with_reducible repeat (first | refine blk_drewN ?_ _ | refine blk_drew ?_ | refine blk_alloc ?_ _)); exact BK154001.out⟩, ⟨by repeat (first | (with_reducible first | exact HB.out | apply below_alloc | apply pw_below_drewN | apply below_drew1 | refine below_set ?_ GE154001.out) | exact HB.out)⟩⟩
 case round =>
  clear H'
  try clear c1
  try clear p2
  obtain ⟨x10_1, rfl, HA, HK1, BK154001, HB⟩ := hrel
  cases gk with
  | zero => exact absurd HA.out (by simp [spec_NodeNamed.l0])
  | succ k1 =>
   have H := HA.out
   clear HA
   simp only [spec_NodeNamed.l0] at H
   by_cases c5 : x10_1 < (l0_0.length : Int)
   ·rw [if_pos c5] at H
    have c5b0 : decide (x10_1 < (l0_0.length : Int)) = true := decide_eq_true c5
    clear c5
    by_cases c6 : 0 ≤ x10_1
    ·rw [if_pos c6] at H
     have c6b0 : decide (0 ≤ x10_1) = true := decide_eq_true c6
     clear c6
     by_cases c7 : x10_1 < (l0_0.length : Int)
     ·rw [if_pos c7] at H
      have c7b0 : decide (x10_1 < (l0_0.length : Int)) = true := decide_eq_true c7
      clear c7
      by_cases c8 : ((rd_T116 l0_0 x10_1).f0).toList = a1.toList
      ·rw [if_pos c8] at H
       have c8b0 : (((rd_T116 l0_0 x10_1).f0).toList == a1.toList) = true := beq_iff_eq.mpr c8
       have c8b1 : (((rd_T116 l0_0 x10_1).f0).toList != a1.toList) = false := bne_eq_false_iff_eq.mpr c8
       clear c8
       obtain rfl := Option.some.inj H
       have p154002 : 0 ≤ (x10_1 : Int) := of_decide_eq_true (by with_reducible assumption)
       have q154002 : x10_1 < (l0_0.length : Int) := of_decide_eq_true (by with_reducible assumption)
       obtain ⟨ad154002, A154002_1, c154002_1, e154002, hx154002_0, hx154002_1, hx154002_2, hl154002_1, hi154002_1⟩ := at_T116 HR0_0.out x10_1 p154002 q154002
       cases e154002
       replace hx154002_0 := (HB.out.cell (World.block_lt_of_cell? w _ hx154002_0)).trans hx154002_0
       replace hx154002_1 := (HB.out.cell (World.block_lt_of_cell? w _ hx154002_1)).trans hx154002_1
       replace hx154002_2 := (HB.out.cell (World.block_lt_of_cell? w _ hx154002_2)).trans hx154002_2
       have HR154002_1 := Aside0.mk hi154002_1; have HC154002_1 := Aside0.mk hl154002_1; clear hi154002_1 hl154002_1
       replace p154002 := eq_true p154002
       replace q154002 := eq_true q154002
       go_wp2_with (first | ((with_reducible refine gate_dst (N := 6) rfl ?_); refine box_event ?hg (N := 6) ?hd (cs := #[.string (⟨#[]⟩ : ByteArray), .slice none 0 0, .int .i64 0]) (t := 116) ?hr ?_; (case hd => rfl); (case hg => rfl); (case hr => first | (go_simp; done) | (go_simp; rfl)); intro gb154003 hg w9 hbox hb; have n0_ := Aside0.mk (blk_below BK154001.out hb); have n1_ := Aside0.mk (below_step (by exact HB.out) hb); have n2_ := Aside0.mk (hbox); have n3_ := Aside0.mk ((by rw [hg]; exact (below_size (by exact HB.out)) : w.heap.size ≤ gb154003)); have n4_ := n3_; have n5_ := Aside0.mk ((by rw [hg]; exact Nat.ne_of_lt (blk_lt BK154001.out) : gb154001 ≠ gb154003)); have n6_ := Aside0.mk n5_.out.symm; clear BK154001; clear HB; have BK154001 := n0_; have HB := n1_; have BK154003 := n2_; have GW154003 := n3_; have GE154003 := n4_; have NB154001_154003 := n5_; have NB154003_154001 := n6_; clear n0_ n1_ n2_ n3_ n4_ n5_ n6_; clear hb hbox hg; have hnb10 := NB154003_154001.out; have hnc10 := NB154001_154003.out; have hcz11_0 : w9.cell? ⟨gb154003, 0, none⟩ = some (.string (⟨#[]⟩ : ByteArray)) := (blk_cell BK154003.out 0).trans rfl; have hcz11_1 : w9.cell? ⟨gb154003, 1, none⟩ = some (.slice none 0 0) := (blk_cell BK154003.out 1).trans rfl; have hcz11_2 : w9.cell? ⟨gb154003, 2, none⟩ = some (.int .i64 0) := (blk_cell BK154003.out 2).trans rfl; have hfz11_0 := blk_frozen BK154003.out 0; have hfz11_1 := blk_frozen BK154003.out 1; have hfz11_2 := blk_frozen BK154003.out 2))
       go_ret
       exact ⟨by first | rfl | (simp [errW_none, errW_some] <;> rfl) | (simp [*, errW_none, errW_some] <;> rfl), by repeat (first | (with_reducible first | exact HB.out | apply below_alloc | apply pw_below_drewN | apply below_drew1 | refine below_set ?_ GE154001.out | refine below_set ?_ GE154003.out) | exact HB.out)⟩
      ·rw [if_neg c8] at H
       have c8b0 : (((rd_T116 l0_0 x10_1).f0).toList == a1.toList) = false := beq_eq_false_iff_ne.mpr c8
       have c8b1 : (((rd_T116 l0_0 x10_1).f0).toList != a1.toList) = true := bne_iff_ne.mpr c8
       have H' := Aside0.mk H
       clear H
       have p154002 : 0 ≤ (x10_1 : Int) := of_decide_eq_true (by with_reducible assumption)
       have q154002 : x10_1 < (l0_0.length : Int) := of_decide_eq_true (by with_reducible assumption)
       obtain ⟨ad154002, A154002_1, c154002_1, e154002, hx154002_0, hx154002_1, hx154002_2, hl154002_1, hi154002_1⟩ := at_T116 HR0_0.out x10_1 p154002 q154002
       cases e154002
       replace hx154002_0 := (HB.out.cell (World.block_lt_of_cell? w _ hx154002_0)).trans hx154002_0
       replace hx154002_1 := (HB.out.cell (World.block_lt_of_cell? w _ hx154002_1)).trans hx154002_1
       replace hx154002_2 := (HB.out.cell (World.block_lt_of_cell? w _ hx154002_2)).trans hx154002_2
       have HR154002_1 := Aside0.mk hi154002_1; have HC154002_1 := Aside0.mk hl154002_1; clear hi154002_1 hl154002_1
       replace p154002 := eq_true p154002
       replace q154002 := eq_true q154002
       go_wp2_with (first | ((with_reducible refine gate_dst (N := 6) rfl ?_); refine box_event ?hg (N := 6) ?hd (cs := #[.string (⟨#[]⟩ : ByteArray), .slice none 0 0, .int .i64 0]) (t := 116) ?hr ?_; (case hd => rfl); (case hg => rfl); (case hr => first | (go_simp; done) | (go_simp; rfl)); intro gb154003 hg w12 hbox hb; have n0_ := Aside0.mk (blk_below BK154001.out hb); have n1_ := Aside0.mk (below_step (by exact HB.out) hb); have n2_ := Aside0.mk (hbox); have n3_ := Aside0.mk ((by rw [hg]; exact (below_size (by exact HB.out)) : w.heap.size ≤ gb154003)); have n4_ := n3_; have n5_ := Aside0.mk ((by rw [hg]; exact Nat.ne_of_lt (blk_lt BK154001.out) : gb154001 ≠ gb154003)); have n6_ := Aside0.mk n5_.out.symm; clear BK154001; clear HB; have BK154001 := n0_; have HB := n1_; have BK154003 := n2_; have GW154003 := n3_; have GE154003 := n4_; have NB154001_154003 := n5_; have NB154003_154001 := n6_; clear n0_ n1_ n2_ n3_ n4_ n5_ n6_; clear hb hbox hg; have hnb13 := NB154003_154001.out; have hnc13 := NB154001_154003.out; have hcz14_0 : w12.cell? ⟨gb154003, 0, none⟩ = some (.string (⟨#[]⟩ : ByteArray)) := (blk_cell BK154003.out 0).trans rfl; have hcz14_1 : w12.cell? ⟨gb154003, 1, none⟩ = some (.slice none 0 0) := (blk_cell BK154003.out 1).trans rfl; have hcz14_2 : w12.cell? ⟨gb154003, 2, none⟩ = some (.int .i64 0) := (blk_cell BK154003.out 2).trans rfl; have hfz14_0 := blk_frozen BK154003.out 0; have hfz14_1 := blk_frozen BK154003.out 1; have hfz14_2 := blk_frozen BK154003.out 2))
       go_roundg k1
       case measure => have := HK1.out; omega
       case rel => exact ⟨(wrap64 (x10_1 + 1)), (by first | rfl | (simp; done) | (simp [*]; done)), H', ⟨by have := HK1.out; omega⟩, ⟨by (with_reducible repeat (first | refine blk_drewN ?_ _ | refine blk_drew ?_ | refine blk_alloc ?_ _)); refine blk_far ?_ NB154001_154003.out _; (with_reducible repeat (first | refine blk_drewN ?_ _ | refine blk_drew ?_ | refine blk_alloc ?_ _)); refine blk_far ?_ NB154001_154003.out _; (with_reducible repeat (first | refine blk_drewN ?_ _ | refine blk_drew ?_ | refine blk_alloc ?_ _)); refine blk_far ?_ NB154001_154003.out _; (with_reducible repeat (first | refine blk_drewN ?_ _ | refine blk_drew ?_ | refine blk_alloc ?_ _)); exact BK154001.out⟩, ⟨by repeat (first | (with_reducible first | exact HB.out | apply below_alloc | apply pw_below_drewN | apply below_drew1 | refine below_set ?_ GE154001.out | refine below_set ?_ GE154003.out) | exact HB.out)⟩⟩
     ·rw [if_neg c7] at H
      exact absurd H (by simp)
    ·rw [if_neg c6] at H
     exact absurd H (by simp)
   ·rw [if_neg c5] at H
    have c5b0 : decide (x10_1 < (l0_0.length : Int)) = false := decide_eq_false c5
    clear c5
    obtain rfl := Option.some.inj H
    go_wp2
    go_ret
    exact ⟨by first | rfl | (simp [errW_none, errW_some] <;> rfl) | (simp [*, errW_none, errW_some] <;> rfl), by repeat (first | (with_reducible first | exact HB.out | apply below_alloc | apply pw_below_drewN | apply below_drew1 | refine below_set ?_ GE154001.out) | exact HB.out)⟩

end Go.Proofs.Ytodfnelilhjoeaa.Pr
namespace Go.Proofs.Ytodfnelilhjoeaa.Pr
open Go.RowKit Go.Proofs.YtodfnelilhjoeaaW.PrintWords Go.Proofs.Ytodfnelilhjoeaa.Ni
def namedI (ns : List PNode) (s : ByteArray) : Int := idxOf (fun n => decide (n.f0.toList = s.toList)) ns
theorem spec_NodeNamed_f (ns : List PNode) (ts : List PTie) (z : Int) (s : ByteArray) (hl : ns.length ≤ 9223372036854775807) (k : Nat) (hk : 2 ^ 64 ≤ k) : spec_NodeNamed.f k ns ts z s = some (namedI ns s) := by
 have key := loop_up ns.length (fun k i => (∀ j y, j < i → ns[j]? = some y → decide (y.f0.toList = s.toList) = false) → spec_NodeNamed.l0 k s ns ns.length (i : Int) = some (namedI ns s)) 0
  (fun k _ hb => by
   simp only [spec_NodeNamed.l0]
   rw [if_neg (by omega), namedI, idxOf_miss _ _ hb])
  (fun k i _ hi ih hb => by
   simp only [spec_NodeNamed.l0]
   rw [if_pos (by omega), if_pos (by omega), if_pos (by omega), rdN_nat, wrap_nat hi (by omega)]
   by_cases h : (ns.getD i z116).f0.toList = s.toList
   ·rw [if_pos h, namedI, idxOf_hit _ ns i _ (getD_some hi z116) (decide_eq_true h) hb]
   ·rw [if_neg h, ih]
    intro j y hj hy
    by_cases e : j = i
    ·subst e
     rw [getD_some hi z116] at hy
     cases hy
     exact decide_eq_false h
    ·exact hb j y (by omega) hy) 0 k (Nat.zero_le _) (by omega)
 unfold spec_NodeNamed.f
 exact key (fun j y hj => absurd hj (by omega))
end Go.Proofs.Ytodfnelilhjoeaa.Pr
