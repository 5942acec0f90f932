/- The texts of one claim, put together by a program of this session. -/
import Derived.Deep.LoopGhost
import Derived.Deep.RegionHeld3
import Derived.Test.YtodfnelilhjoeaaBSsc1x1
import Derived.Test.YtodfnelilhjoeaaBSsc1x10
import Derived.Test.YtodfnelilhjoeaaBSsc1x11
import Derived.Test.YtodfnelilhjoeaaBSsc1x2
import Derived.Test.YtodfnelilhjoeaaBSsc1x3
import Derived.Test.YtodfnelilhjoeaaBSsc1x4
import Derived.Test.YtodfnelilhjoeaaBSsc1x6
import Derived.Test.YtodfnelilhjoeaaBSsc1x7
import Derived.Test.YtodfnelilhjoeaaBSsc1x9
namespace Go.Proofs.Ytodfnelilhjoeaa.Pr
open Go.RowKit Go.Proofs.YtodfnelilhjoeaaW.PrintWords Go.Proofs.YtodfnelilhjoeaaW.PrintLast Go.Proofs.YtodfnelilhjoeaaW.PrintMore
attribute [local go_sem] max2_int min2_int max_two min_two max_three min_three max_four min_four
set_option linter.unusedVariables false
set_option linter.unusedSimpArgs false
def laws_szIntS.f (l0 : List Int) (a1 : Int) : Option (Int) := if (wrap64 (a1 - (l0.length : Int))) < 0 then (some (-1)) else (some (wrap64 (a1 - (l0.length : Int))))
set_option maxHeartbeats 8000000 in
set_option maxRecDepth 100000 in
theorem laws_szIntS.calls (A0 : Option Addr) (c0 : Nat) (l0 : List Int) (a1 : Int) (r : Int) (w : World) (hr0 : Kd.C (Kd.int .i64) w A0 l0.length l0) (hc0 : l0.length ≤ c0) (h : laws_szIntS.f l0 a1 = some r) :
  Calls Try.prog 65 #[.slice A0 l0.length c0, .int .i64 a1] w fun e w' => e = .returned (.int .i64 r) ∧ Drawn0 w w' := by
 have HR0 := Aside0.mk hr0; have HC0 := Aside0.mk hc0; clear hr0 hc0
 have H : (if (wrap64 (a1 - (l0.length : Int))) < 0 then (some (-1)) else (some (wrap64 (a1 - (l0.length : Int))))) = some r := h
 clear h
 by_cases c3 : (wrap64 (a1 - (l0.length : Int))) < 0
 ·rw [if_pos c3] at H
  have c3b0 : decide ((wrap64 (a1 - (l0.length : Int))) < 0) = true := decide_eq_true c3
  clear c3
  obtain rfl := Option.some.inj H
  go_enter Try.func65, Try.ntmps65
  go_wp2
  go_ret
  exact ⟨by first | rfl | (simp; done) | (simp [*]; done), by repeat (first | exact Drawn0.refl _ | apply Drawn0.step)⟩
 ·rw [if_neg c3] at H
  have c3b0 : decide ((wrap64 (a1 - (l0.length : Int))) < 0) = false := decide_eq_false c3
  clear c3
  obtain rfl := Option.some.inj H
  go_enter Try.func65, Try.ntmps65
  go_wp2
  go_ret
  exact ⟨by first | rfl | (simp; done) | (simp [*]; done), by repeat (first | exact Drawn0.refl _ | apply Drawn0.step)⟩

def laws_szNode.f (a0_0 : ByteArray) (l0_1 : List Int) (a0_2 : Int) (a1 : Int) : Option (Int) := if (wrap64 (a1 - (a0_0.size : Int))) < 0 then (some (-1)) else ((laws_szIntS.f l0_1 (wrap64 (a1 - (a0_0.size : Int)))).bind fun t116002 => (if t116002 < 0 then (some (-1)) else (some t116002)))
set_option maxHeartbeats 8000000 in
set_option maxRecDepth 100000 in
theorem laws_szNode.calls (a0_0 : ByteArray) (A0_1 : Option Addr) (c0_1 : Nat) (l0_1 : List Int) (a0_2 : Int) (a1 : Int) (r : Int) (w : World) (hr0_1 : Kd.C (Kd.int .i64) w A0_1 l0_1.length l0_1) (hc0_1 : l0_1.length ≤ c0_1) (h : laws_szNode.f a0_0 l0_1 a0_2 a1 = some r) :
  Calls Try.prog 116 #[.agg #[.string a0_0, .slice A0_1 l0_1.length c0_1, .int .i64 a0_2], .int .i64 a1] w fun e w' => e = .returned (.int .i64 r) ∧ Below w.heap.size w w' := by
 have hu127 := Try.underlying127
 have HR0_1 := Aside0.mk hr0_1; have HC0_1 := Aside0.mk hc0_1; clear hr0_1 hc0_1
 have HB := Aside0.mk (Below.refl w.heap.size w)
 have H : (if (wrap64 (a1 - (a0_0.size : Int))) < 0 then (some (-1)) else ((laws_szIntS.f l0_1 (wrap64 (a1 - (a0_0.size : Int)))).bind fun t116002 => (if t116002 < 0 then (some (-1)) else (some t116002)))) = some r := h
 clear h
 by_cases c3 : (wrap64 (a1 - (a0_0.size : Int))) < 0
 ·rw [if_pos c3] at H
  have c3b0 : decide ((wrap64 (a1 - (a0_0.size : Int))) < 0) = true := decide_eq_true c3
  clear c3
  obtain rfl := Option.some.inj H
  go_enter Try.func116, Try.ntmps116
  go_wp2_with (first | ((with_reducible refine gate_dst (N := 2) rfl ?_); refine box_event ?hg (N := 2) ?hd (cs := #[.string a0_0, .slice A0_1 l0_1.length c0_1, .int .i64 a0_2]) (t := 127) ?hr ?_; (case hd => rfl); (case hg => rfl); (case hr => first | (go_simp; done) | (go_simp; rfl)); intro gb116001 hg w4 hbox hb; have n0_ := Aside0.mk (below_step (by repeat (first | (with_reducible first | exact HB.out | apply below_alloc | apply pw_below_drewN | apply below_drew1) | exact HB.out)) hb); have n1_ := Aside0.mk (hbox); have n2_ := Aside0.mk ((by rw [hg]; exact (below_size (by repeat (first | (with_reducible first | exact HB.out | apply below_alloc | apply pw_below_drewN | apply below_drew1) | exact HB.out))) : w.heap.size ≤ gb116001)); have n3_ := Aside0.mk ((by rw [hg]; exact (below_size (by repeat (first | (with_reducible first | exact HB.out | apply below_alloc | apply pw_below_drewN | apply below_drew1) | exact HB.out))) : w.heap.size ≤ gb116001)); clear HB; have HB := n0_; have BK116001 := n1_; have GW116001 := n2_; have GE116001 := n3_; clear n0_ n1_ n2_ n3_; clear hb hbox hg; have hcz5_0 : w4.cell? ⟨gb116001, 0, none⟩ = some (.string a0_0) := (blk_cell BK116001.out 0).trans rfl; have hcz5_1 : w4.cell? ⟨gb116001, 1, none⟩ = some (.slice A0_1 l0_1.length c0_1) := (blk_cell BK116001.out 1).trans rfl; have hcz5_2 : w4.cell? ⟨gb116001, 2, none⟩ = some (.int .i64 a0_2) := (blk_cell BK116001.out 2).trans rfl; have hfz5_0 := blk_frozen BK116001.out 0; have hfz5_1 := blk_frozen BK116001.out 1; have hfz5_2 := blk_frozen BK116001.out 2))
  go_ret
  exact ⟨by first | rfl | (simp [errW_none, errW_some] <;> rfl) | (simp [*, errW_none, errW_some] <;> rfl), by repeat (first | (with_reducible first | exact HB.out | apply below_alloc | apply pw_below_drewN | apply below_drew1 | refine below_set ?_ GE116001.out) | exact HB.out)⟩
 ·rw [if_neg c3] at H
  have c3b0 : decide ((wrap64 (a1 - (a0_0.size : Int))) < 0) = false := decide_eq_false c3
  clear c3
  replace H := Option.bind_eq_some_iff.mp H
  obtain ⟨t116002, A60, H⟩ := H
  replace H : (if t116002 < 0 then (some (-1)) else (some t116002)) = some r := H
  have A6 := Aside0.mk A60; clear A60
  by_cases c7 : t116002 < 0
  ·rw [if_pos c7] at H
   have c7b0 : decide (t116002 < 0) = true := decide_eq_true c7
   clear c7
   obtain rfl := Option.some.inj H
   go_enter Try.func116, Try.ntmps116
   go_wp2_with (first | ((with_reducible refine gate_dst (N := 2) rfl ?_); refine box_event ?hg (N := 2) ?hd (cs := #[.string a0_0, .slice A0_1 l0_1.length c0_1, .int .i64 a0_2]) (t := 127) ?hr ?_; (case hd => rfl); (case hg => rfl); (case hr => first | (go_simp; done) | (go_simp; rfl)); intro gb116001 hg w8 hbox hb; have n0_ := Aside0.mk (below_step (by repeat (first | (with_reducible first | exact HB.out | apply below_alloc | apply pw_below_drewN | apply below_drew1) | exact HB.out)) hb); have n1_ := Aside0.mk (hbox); have n2_ := Aside0.mk ((by rw [hg]; exact (below_size (by repeat (first | (with_reducible first | exact HB.out | apply below_alloc | apply pw_below_drewN | apply below_drew1) | exact HB.out))) : w.heap.size ≤ gb116001)); have n3_ := Aside0.mk ((by rw [hg]; exact (below_size (by repeat (first | (with_reducible first | exact HB.out | apply below_alloc | apply pw_below_drewN | apply below_drew1) | exact HB.out))) : w.heap.size ≤ gb116001)); clear HB; have HB := n0_; have BK116001 := n1_; have GW116001 := n2_; have GE116001 := n3_; clear n0_ n1_ n2_ n3_; clear hb hbox hg; have hcz9_0 : w8.cell? ⟨gb116001, 0, none⟩ = some (.string a0_0) := (blk_cell BK116001.out 0).trans rfl; have hcz9_1 : w8.cell? ⟨gb116001, 1, none⟩ = some (.slice A0_1 l0_1.length c0_1) := (blk_cell BK116001.out 1).trans rfl; have hcz9_2 : w8.cell? ⟨gb116001, 2, none⟩ = some (.int .i64 a0_2) := (blk_cell BK116001.out 2).trans rfl; have hfz9_0 := blk_frozen BK116001.out 0; have hfz9_1 := blk_frozen BK116001.out 1; have hfz9_2 := blk_frozen BK116001.out 2) | ((with_reducible refine gate_callee (f := 65) rfl ?_); refine goesL_ (some 15) rfl rfl Try.func65 (by kernel_rfl) rfl #[.slice A0_1 l0_1.length c0_1, .int .i64 (wrap64 (a1 - (a0_0.size : Int)))] rfl (by (try simp only [List.map_toArray, List.map_cons, List.map_nil]); first | done | rfl | (simp only [List.length_drop, List.length_take]; rfl)) ?_; (with_reducible refine (laws_szIntS.calls _ _ l0_1 (wrap64 (a1 - (a0_0.size : Int))) t116002 _ ?side1 ?side2 A6.out).mono ?_); (case side1 => repeat (first | exact (Kd.C_below HR0_1.out HB.out) | (with_reducible refine Kd.C_alloc ?_ _) | (with_reducible refine Kd.C_drewN ?_ _) | (with_reducible refine Kd.C_drew ?_))); (case side2 => exact HC0_1.out); rintro e w' ⟨rfl, ⟨nd, rfl⟩⟩; refine ⟨_, rfl, ?_⟩))
   go_ret
   exact ⟨by first | rfl | (simp [errW_none, errW_some] <;> rfl) | (simp [*, errW_none, errW_some] <;> rfl), by repeat (first | (with_reducible first | exact HB.out | apply below_alloc | apply pw_below_drewN | apply below_drew1 | refine below_set ?_ GE116001.out) | exact HB.out)⟩
  ·rw [if_neg c7] at H
   have c7b0 : decide (t116002 < 0) = false := decide_eq_false c7
   clear c7
   obtain rfl := Option.some.inj H
   go_enter Try.func116, Try.ntmps116
   go_wp2_with (first | ((with_reducible refine gate_dst (N := 2) rfl ?_); refine box_event ?hg (N := 2) ?hd (cs := #[.string a0_0, .slice A0_1 l0_1.length c0_1, .int .i64 a0_2]) (t := 127) ?hr ?_; (case hd => rfl); (case hg => rfl); (case hr => first | (go_simp; done) | (go_simp; rfl)); intro gb116001 hg w10 hbox hb; have n0_ := Aside0.mk (below_step (by repeat (first | (with_reducible first | exact HB.out | apply below_alloc | apply pw_below_drewN | apply below_drew1) | exact HB.out)) hb); have n1_ := Aside0.mk (hbox); have n2_ := Aside0.mk ((by rw [hg]; exact (below_size (by repeat (first | (with_reducible first | exact HB.out | apply below_alloc | apply pw_below_drewN | apply below_drew1) | exact HB.out))) : w.heap.size ≤ gb116001)); have n3_ := Aside0.mk ((by rw [hg]; exact (below_size (by repeat (first | (with_reducible first | exact HB.out | apply below_alloc | apply pw_below_drewN | apply below_drew1) | exact HB.out))) : w.heap.size ≤ gb116001)); clear HB; have HB := n0_; have BK116001 := n1_; have GW116001 := n2_; have GE116001 := n3_; clear n0_ n1_ n2_ n3_; clear hb hbox hg; have hcz11_0 : w10.cell? ⟨gb116001, 0, none⟩ = some (.string a0_0) := (blk_cell BK116001.out 0).trans rfl; have hcz11_1 : w10.cell? ⟨gb116001, 1, none⟩ = some (.slice A0_1 l0_1.length c0_1) := (blk_cell BK116001.out 1).trans rfl; have hcz11_2 : w10.cell? ⟨gb116001, 2, none⟩ = some (.int .i64 a0_2) := (blk_cell BK116001.out 2).trans rfl; have hfz11_0 := blk_frozen BK116001.out 0; have hfz11_1 := blk_frozen BK116001.out 1; have hfz11_2 := blk_frozen BK116001.out 2) | ((with_reducible refine gate_callee (f := 65) rfl ?_); refine goesL_ (some 15) rfl rfl Try.func65 (by kernel_rfl) rfl #[.slice A0_1 l0_1.length c0_1, .int .i64 (wrap64 (a1 - (a0_0.size : Int)))] rfl (by (try simp only [List.map_toArray, List.map_cons, List.map_nil]); first | done | rfl | (simp only [List.length_drop, List.length_take]; rfl)) ?_; (with_reducible refine (laws_szIntS.calls _ _ l0_1 (wrap64 (a1 - (a0_0.size : Int))) t116002 _ ?side1 ?side2 A6.out).mono ?_); (case side1 => repeat (first | exact (Kd.C_below HR0_1.out HB.out) | (with_reducible refine Kd.C_alloc ?_ _) | (with_reducible refine Kd.C_drewN ?_ _) | (with_reducible refine Kd.C_drew ?_))); (case side2 => exact HC0_1.out); rintro e w' ⟨rfl, ⟨nd, rfl⟩⟩; refine ⟨_, rfl, ?_⟩))
   go_ret
   exact ⟨by first | rfl | (simp [errW_none, errW_some] <;> rfl) | (simp [*, errW_none, errW_some] <;> rfl), by repeat (first | (with_reducible first | exact HB.out | apply below_alloc | apply pw_below_drewN | apply below_drew1 | refine below_set ?_ GE116001.out) | exact HB.out)⟩

def laws_szNodeS.l0 : Nat → List (S127) → Int → Int → Option (Int)
 | 0, _, _, _ => none
 | k + 1, x0, x1, x5 => if x5 < (x0.length : Int) then (if 0 ≤ x5 then ((laws_szNode.f ((rd_T127 x0 x5).f0) ((rd_T127 x0 x5).f1) ((rd_T127 x0 x5).f2) x1).bind fun t63002 => (if t63002 < 0 then (some (-1)) else (laws_szNodeS.l0 k x0 t63002 (wrap64 (x5 + 1))))) else (none)) else (some x1)
def laws_szNodeS.f (k : Nat) (l0 : List (S127)) (a1 : Int) : Option (Int) := if (wrap64 (a1 - (l0.length : Int))) < 0 then (some (-1)) else (laws_szNodeS.l0 k l0 (wrap64 (a1 - (l0.length : Int))) 0)
set_option maxHeartbeats 8000000 in
set_option maxRecDepth 100000 in
theorem laws_szNodeS.calls (k : Nat) (A0 : Option Addr) (c0 : Nat) (l0 : List (S127)) (a1 : Int) (r : Int) (w : World) (hr0 : Kd.C k127 w A0 l0.length l0) (hc0 : l0.length ≤ c0) (h : laws_szNodeS.f k l0 a1 = some r) :
  Calls Try.prog 63 #[.slice A0 l0.length c0, .int .i64 a1] w fun e w' => e = .returned (.int .i64 r) ∧ Below w.heap.size w w' := by
 have hu127 := Try.underlying127
 have HR0 := Aside0.mk hr0; have HC0 := Aside0.mk hc0; clear hr0 hc0
 have HB := Aside0.mk (Below.refl w.heap.size w)
 have H : (if (wrap64 (a1 - (l0.length : Int))) < 0 then (some (-1)) else (laws_szNodeS.l0 k l0 (wrap64 (a1 - (l0.length : Int))) 0)) = some r := h
 clear h
 by_cases c3 : (wrap64 (a1 - (l0.length : Int))) < 0
 ·rw [if_pos c3] at H
  have c3b0 : decide ((wrap64 (a1 - (l0.length : Int))) < 0) = true := decide_eq_true c3
  clear c3
  obtain rfl := Option.some.inj H
  go_enter Try.func63, Try.ntmps63
  go_wp2
  go_ret
  exact ⟨by first | rfl | (simp [errW_none, errW_some] <;> rfl) | (simp [*, errW_none, errW_some] <;> rfl), by repeat (first | (with_reducible first | exact HB.out | apply below_alloc | apply pw_below_drewN | apply below_drew1) | exact HB.out)⟩
 ·rw [if_neg c3] at H
  have c3b0 : decide ((wrap64 (a1 - (l0.length : Int))) < 0) = false := decide_eq_false c3
  clear c3
  have H' := Aside0.mk H
  clear H
  go_enter Try.func63, Try.ntmps63
  go_wp2
  go_loopg [1, 5] k (fun kq v1 v5 w' => ∃ (x1_1 : Int) (x5_1 : Int), v1 = .int .i64 x1_1 ∧ v5 = .int .i64 x5_1 ∧ Aside0 (laws_szNodeS.l0 kq l0 x1_1 x5_1 = some r) ∧ Aside0 (kq ≤ k) ∧ Aside0 (Below w.heap.size w w'))
  case atStart => exact ⟨(wrap64 (a1 - (l0.length : Int))), (0), (by first | rfl | (simp; done) | (simp [*]; done)), (by first | rfl | (simp; done) | (simp [*]; done)), H', ⟨Nat.le_refl _⟩, ⟨by repeat (first | (with_reducible first | exact HB.out | apply below_alloc | apply pw_below_drewN | apply below_drew1) | exact HB.out)⟩⟩
  case round =>
   clear H'
   try clear p2
   try clear c3
   try clear c3b0
   obtain ⟨x1_1, x5_1, rfl, rfl, HA, HK1, HB⟩ := hrel
   cases gk with
   | zero => exact absurd HA.out (by simp [laws_szNodeS.l0])
   | succ k1 =>
    have H := HA.out
    clear HA
    simp only [laws_szNodeS.l0] at H
    by_cases c4 : x5_1 < (l0.length : Int)
    ·rw [if_pos c4] at H
     have c4b0 : decide (x5_1 < (l0.length : Int)) = true := decide_eq_true c4
     clear c4
     by_cases c5 : 0 ≤ x5_1
     ·rw [if_pos c5] at H
      have c5b0 : decide (0 ≤ x5_1) = true := decide_eq_true c5
      clear c5
      replace H := Option.bind_eq_some_iff.mp H
      obtain ⟨t63002, A60, H⟩ := H
      replace H : (if t63002 < 0 then (some (-1)) else (laws_szNodeS.l0 k1 l0 t63002 (wrap64 (x5_1 + 1)))) = some r := H
      have A6 := Aside0.mk A60; clear A60
      by_cases c7 : t63002 < 0
      ·rw [if_pos c7] at H
       have c7b0 : decide (t63002 < 0) = true := decide_eq_true c7
       clear c7
       obtain rfl := Option.some.inj H
       have p63001 : 0 ≤ (x5_1 : Int) := of_decide_eq_true (by first | (with_reducible assumption) | assumption)
       have q63001 : x5_1 < (l0.length : Int) := of_decide_eq_true (by first | (with_reducible assumption) | assumption)
       obtain ⟨ad63001, A63001_1, c63001_1, e63001, hx63001_0, hx63001_1, hx63001_2, hl63001_1, hi63001_1⟩ := at_T127 HR0.out x5_1 p63001 q63001
       cases e63001
       replace hx63001_0 := (HB.out.cell (World.block_lt_of_cell? w _ hx63001_0)).trans hx63001_0
       replace hx63001_1 := (HB.out.cell (World.block_lt_of_cell? w _ hx63001_1)).trans hx63001_1
       replace hx63001_2 := (HB.out.cell (World.block_lt_of_cell? w _ hx63001_2)).trans hx63001_2
       have HR63001_1 := Aside0.mk hi63001_1; have HC63001_1 := Aside0.mk hl63001_1; clear hi63001_1 hl63001_1
       replace p63001 := eq_true p63001
       replace q63001 := eq_true q63001
       go_wp2_with (first | ((with_reducible refine gate_callee (f := 116) rfl ?_); refine goesL_ (some 23) rfl rfl Try.func116 (by kernel_rfl) rfl #[.agg #[.string ((rd_T127 l0 x5_1).f0), .slice A63001_1 ((rd_T127 l0 x5_1).f1).length c63001_1, .int .i64 ((rd_T127 l0 x5_1).f2)], .int .i64 x1_1] rfl (by (try simp only [List.map_toArray, List.map_cons, List.map_nil]); first | done | rfl | (simp only [List.length_drop, List.length_take]; rfl)) ?_; (with_reducible refine (laws_szNode.calls ((rd_T127 l0 x5_1).f0) _ _ ((rd_T127 l0 x5_1).f1) ((rd_T127 l0 x5_1).f2) x1_1 t63002 _ ?side1 ?side2 A6.out).mono ?_); (case side1 => repeat (first | exact (Kd.C_below HR63001_1.out HB.out) | (with_reducible refine Kd.C_alloc ?_ _) | (with_reducible refine Kd.C_drewN ?_ _) | (with_reducible refine Kd.C_drew ?_))); (case side2 => exact HC63001_1.out); rintro e w8 ⟨rfl, hb⟩; refine ⟨_, rfl, ?_⟩; have n0_ := Aside0.mk (below_step (by repeat (first | (with_reducible first | exact HB.out | apply below_alloc | apply pw_below_drewN | apply below_drew1) | exact HB.out)) hb); clear HB; have HB := n0_; clear n0_; (try clear hb); (try clear hb2); (try clear hk); (try clear hi)))
       go_ret
       exact ⟨by first | rfl | (simp [errW_none, errW_some] <;> rfl) | (simp [*, errW_none, errW_some] <;> rfl), by repeat (first | (with_reducible first | exact HB.out | apply below_alloc | apply pw_below_drewN | apply below_drew1) | exact HB.out)⟩
      ·rw [if_neg c7] at H
       have c7b0 : decide (t63002 < 0) = false := decide_eq_false c7
       clear c7
       have H' := Aside0.mk H
       clear H
       have p63001 : 0 ≤ (x5_1 : Int) := of_decide_eq_true (by first | (with_reducible assumption) | assumption)
       have q63001 : x5_1 < (l0.length : Int) := of_decide_eq_true (by first | (with_reducible assumption) | assumption)
       obtain ⟨ad63001, A63001_1, c63001_1, e63001, hx63001_0, hx63001_1, hx63001_2, hl63001_1, hi63001_1⟩ := at_T127 HR0.out x5_1 p63001 q63001
       cases e63001
       replace hx63001_0 := (HB.out.cell (World.block_lt_of_cell? w _ hx63001_0)).trans hx63001_0
       replace hx63001_1 := (HB.out.cell (World.block_lt_of_cell? w _ hx63001_1)).trans hx63001_1
       replace hx63001_2 := (HB.out.cell (World.block_lt_of_cell? w _ hx63001_2)).trans hx63001_2
       have HR63001_1 := Aside0.mk hi63001_1; have HC63001_1 := Aside0.mk hl63001_1; clear hi63001_1 hl63001_1
       replace p63001 := eq_true p63001
       replace q63001 := eq_true q63001
       go_wp2_with (first | ((with_reducible refine gate_callee (f := 116) rfl ?_); refine goesL_ (some 23) rfl rfl Try.func116 (by kernel_rfl) rfl #[.agg #[.string ((rd_T127 l0 x5_1).f0), .slice A63001_1 ((rd_T127 l0 x5_1).f1).length c63001_1, .int .i64 ((rd_T127 l0 x5_1).f2)], .int .i64 x1_1] rfl (by (try simp only [List.map_toArray, List.map_cons, List.map_nil]); first | done | rfl | (simp only [List.length_drop, List.length_take]; rfl)) ?_; (with_reducible refine (laws_szNode.calls ((rd_T127 l0 x5_1).f0) _ _ ((rd_T127 l0 x5_1).f1) ((rd_T127 l0 x5_1).f2) x1_1 t63002 _ ?side1 ?side2 A6.out).mono ?_); (case side1 => repeat (first | exact (Kd.C_below HR63001_1.out HB.out) | (with_reducible refine Kd.C_alloc ?_ _) | (with_reducible refine Kd.C_drewN ?_ _) | (with_reducible refine Kd.C_drew ?_))); (case side2 => exact HC63001_1.out); rintro e w9 ⟨rfl, hb⟩; refine ⟨_, rfl, ?_⟩; have n0_ := Aside0.mk (below_step (by repeat (first | (with_reducible first | exact HB.out | apply below_alloc | apply pw_below_drewN | apply below_drew1) | exact HB.out)) hb); clear HB; have HB := n0_; clear n0_; (try clear hb); (try clear hb2); (try clear hk); (try clear hi)))
       go_roundg k1
       case measure => have := HK1.out; omega
       case rel => exact ⟨(t63002), (wrap64 (x5_1 + 1)), (by first | rfl | (simp; done) | (simp [*]; done)), (by first | rfl | (simp; done) | (simp [*]; done)), H', ⟨by have := HK1.out; omega⟩, ⟨by repeat (first | (with_reducible first | exact HB.out | apply below_alloc | apply pw_below_drewN | apply below_drew1) | exact HB.out)⟩⟩
     ·rw [if_neg c5] at H
      exact absurd H (by simp)
    ·rw [if_neg c4] at H
     have c4b0 : decide (x5_1 < (l0.length : Int)) = false := decide_eq_false c4
     clear c4
     obtain rfl := Option.some.inj H
     go_wp2
     go_ret
     exact ⟨by first | rfl | (simp [errW_none, errW_some] <;> rfl) | (simp [*, errW_none, errW_some] <;> rfl), by repeat (first | (with_reducible first | exact HB.out | apply below_alloc | apply pw_below_drewN | apply below_drew1) | exact HB.out)⟩

def laws_szTieS.f (l0 : List (S130)) (a1 : Int) : Option (Int) := if (wrap64 (a1 - (l0.length : Int))) < 0 then (some (-1)) else (some (wrap64 (a1 - (l0.length : Int))))
set_option maxHeartbeats 8000000 in
set_option maxRecDepth 100000 in
theorem laws_szTieS.calls (A0 : Option Addr) (c0 : Nat) (l0 : List (S130)) (a1 : Int) (r : Int) (w : World) (hr0 : Kd.C k130 w A0 l0.length l0) (hc0 : l0.length ≤ c0) (h : laws_szTieS.f l0 a1 = some r) :
  Calls Try.prog 64 #[.slice A0 l0.length c0, .int .i64 a1] w fun e w' => e = .returned (.int .i64 r) ∧ Drawn0 w w' := by
 have HR0 := Aside0.mk hr0; have HC0 := Aside0.mk hc0; clear hr0 hc0
 have H : (if (wrap64 (a1 - (l0.length : Int))) < 0 then (some (-1)) else (some (wrap64 (a1 - (l0.length : Int))))) = some r := h
 clear h
 by_cases c3 : (wrap64 (a1 - (l0.length : Int))) < 0
 ·rw [if_pos c3] at H
  have c3b0 : decide ((wrap64 (a1 - (l0.length : Int))) < 0) = true := decide_eq_true c3
  clear c3
  obtain rfl := Option.some.inj H
  go_enter Try.func64, Try.ntmps64
  go_wp2
  go_ret
  exact ⟨by first | rfl | (simp; done) | (simp [*]; done), by repeat (first | exact Drawn0.refl _ | apply Drawn0.step)⟩
 ·rw [if_neg c3] at H
  have c3b0 : decide ((wrap64 (a1 - (l0.length : Int))) < 0) = false := decide_eq_false c3
  clear c3
  obtain rfl := Option.some.inj H
  go_enter Try.func64, Try.ntmps64
  go_wp2
  go_ret
  exact ⟨by first | rfl | (simp; done) | (simp [*]; done), by repeat (first | exact Drawn0.refl _ | apply Drawn0.step)⟩

def laws_szShow.f (k : Nat) (l0_0 : List (S127)) (l0_1 : List (S130)) (a0_2 : Int) (a1 : Int) : Option (Int) := (laws_szNodeS.f k l0_0 a1).bind fun t15002 => (if t15002 < 0 then (some (-1)) else ((laws_szTieS.f l0_1 t15002).bind fun t15003 => (if t15003 < 0 then (some (-1)) else (some t15003))))
set_option maxHeartbeats 8000000 in
set_option maxRecDepth 100000 in
theorem laws_szShow.calls (k : Nat) (A0_0 : Option Addr) (c0_0 : Nat) (l0_0 : List (S127)) (A0_1 : Option Addr) (c0_1 : Nat) (l0_1 : List (S130)) (a0_2 : Int) (a1 : Int) (r : Int) (w : World) (hr0_0 : Kd.C k127 w A0_0 l0_0.length l0_0) (hc0_0 : l0_0.length ≤ c0_0) (hr0_1 : Kd.C k130 w A0_1 l0_1.length l0_1) (hc0_1 : l0_1.length ≤ c0_1) (h : laws_szShow.f k l0_0 l0_1 a0_2 a1 = some r) :
  Calls Try.prog 15 #[.agg #[.slice A0_0 l0_0.length c0_0, .slice A0_1 l0_1.length c0_1, .int .i64 a0_2], .int .i64 a1] w fun e w' => e = .returned (.int .i64 r) ∧ Below w.heap.size w w' := by
 have hu25 := Try.underlying25
 have HR0_0 := Aside0.mk hr0_0; have HC0_0 := Aside0.mk hc0_0; clear hr0_0 hc0_0; have HR0_1 := Aside0.mk hr0_1; have HC0_1 := Aside0.mk hc0_1; clear hr0_1 hc0_1
 have HB := Aside0.mk (Below.refl w.heap.size w)
 have H : ((laws_szNodeS.f k l0_0 a1).bind fun t15002 => (if t15002 < 0 then (some (-1)) else ((laws_szTieS.f l0_1 t15002).bind fun t15003 => (if t15003 < 0 then (some (-1)) else (some t15003))))) = some r := h
 clear h
 replace H := Option.bind_eq_some_iff.mp H
 obtain ⟨t15002, A30, H⟩ := H
 replace H : (if t15002 < 0 then (some (-1)) else ((laws_szTieS.f l0_1 t15002).bind fun t15003 => (if t15003 < 0 then (some (-1)) else (some t15003)))) = some r := H
 have A3 := Aside0.mk A30; clear A30
 by_cases c4 : t15002 < 0
 ·rw [if_pos c4] at H
  have c4b0 : decide (t15002 < 0) = true := decide_eq_true c4
  clear c4
  obtain rfl := Option.some.inj H
  go_enter Try.func15, Try.ntmps15
  go_wp2_with (first | ((with_reducible refine gate_dst (N := 2) rfl ?_); refine box_event ?hg (N := 2) ?hd (cs := #[.slice A0_0 l0_0.length c0_0, .slice A0_1 l0_1.length c0_1, .int .i64 a0_2]) (t := 25) ?hr ?_; (case hd => rfl); (case hg => rfl); (case hr => first | (go_simp; done) | (go_simp; rfl)); intro gb15001 hg w5 hbox hb; have n0_ := Aside0.mk (below_step (by repeat (first | (with_reducible first | exact HB.out | apply below_alloc | apply pw_below_drewN | apply below_drew1) | exact HB.out)) hb); have n1_ := Aside0.mk (hbox); have n2_ := Aside0.mk ((by rw [hg]; exact (below_size (by repeat (first | (with_reducible first | exact HB.out | apply below_alloc | apply pw_below_drewN | apply below_drew1) | exact HB.out))) : w.heap.size ≤ gb15001)); have n3_ := Aside0.mk ((by rw [hg]; exact (below_size (by repeat (first | (with_reducible first | exact HB.out | apply below_alloc | apply pw_below_drewN | apply below_drew1) | exact HB.out))) : w.heap.size ≤ gb15001)); clear HB; have HB := n0_; have BK15001 := n1_; have GW15001 := n2_; have GE15001 := n3_; clear n0_ n1_ n2_ n3_; clear hb hbox hg; have hcz6_0 : w5.cell? ⟨gb15001, 0, none⟩ = some (.slice A0_0 l0_0.length c0_0) := (blk_cell BK15001.out 0).trans rfl; have hcz6_1 : w5.cell? ⟨gb15001, 1, none⟩ = some (.slice A0_1 l0_1.length c0_1) := (blk_cell BK15001.out 1).trans rfl; have hcz6_2 : w5.cell? ⟨gb15001, 2, none⟩ = some (.int .i64 a0_2) := (blk_cell BK15001.out 2).trans rfl; have hfz6_0 := blk_frozen BK15001.out 0; have hfz6_1 := blk_frozen BK15001.out 1; have hfz6_2 := blk_frozen BK15001.out 2) | ((with_reducible refine gate_callee (f := 63) rfl ?_); refine goesL_ (some 8) rfl rfl Try.func63 (by kernel_rfl) rfl #[.slice A0_0 l0_0.length c0_0, .int .i64 a1] rfl (by (try simp only [List.map_toArray, List.map_cons, List.map_nil]); first | done | rfl | (simp only [List.length_drop, List.length_take]; rfl)) ?_; (with_reducible refine (laws_szNodeS.calls k _ _ l0_0 a1 t15002 _ ?side1 ?side2 A3.out).mono ?_); (case side1 => repeat (first | exact (Kd.C_below HR0_0.out HB.out) | (with_reducible refine Kd.C_alloc ?_ _) | (with_reducible refine Kd.C_drewN ?_ _) | (with_reducible refine Kd.C_drew ?_))); (case side2 => exact HC0_0.out); rintro e w7 ⟨rfl, hb⟩; refine ⟨_, rfl, ?_⟩; have n0_ := Aside0.mk (blk_below (g := gb15001) (o := .cells #[.slice A0_0 l0_0.length c0_0, .slice A0_1 l0_1.length c0_1, .int .i64 a0_2] 25 (0, 0)) (by (with_reducible repeat (first | refine blk_drewN ?_ _ | refine blk_drew ?_ | refine blk_alloc ?_ _)); exact BK15001.out) hb); have n1_ := Aside0.mk (below_step (by repeat (first | (with_reducible first | exact HB.out | apply below_alloc | apply pw_below_drewN | apply below_drew1 | refine below_set ?_ GE15001.out) | exact HB.out)) hb); clear BK15001; clear HB; have BK15001 := n0_; have HB := n1_; clear n0_ n1_; (try clear hb); (try clear hb2); (try clear hk); (try clear hi)))
  go_ret
  exact ⟨by first | rfl | (simp [errW_none, errW_some] <;> rfl) | (simp [*, errW_none, errW_some] <;> rfl), by repeat (first | (with_reducible first | exact HB.out | apply below_alloc | apply pw_below_drewN | apply below_drew1 | refine below_set ?_ GE15001.out) | exact HB.out)⟩
 ·rw [if_neg c4] at H
  have c4b0 : decide (t15002 < 0) = false := decide_eq_false c4
  clear c4
  replace H := Option.bind_eq_some_iff.mp H
  obtain ⟨t15003, A80, H⟩ := H
  replace H : (if t15003 < 0 then (some (-1)) else (some t15003)) = some r := H
  have A8 := Aside0.mk A80; clear A80
  by_cases c9 : t15003 < 0
  ·rw [if_pos c9] at H
   have c9b0 : decide (t15003 < 0) = true := decide_eq_true c9
   clear c9
   obtain rfl := Option.some.inj H
   go_enter Try.func15, Try.ntmps15
   go_wp2_with (first | ((with_reducible refine gate_dst (N := 2) rfl ?_); refine box_event ?hg (N := 2) ?hd (cs := #[.slice A0_0 l0_0.length c0_0, .slice A0_1 l0_1.length c0_1, .int .i64 a0_2]) (t := 25) ?hr ?_; (case hd => rfl); (case hg => rfl); (case hr => first | (go_simp; done) | (go_simp; rfl)); intro gb15001 hg w10 hbox hb; have n0_ := Aside0.mk (below_step (by repeat (first | (with_reducible first | exact HB.out | apply below_alloc | apply pw_below_drewN | apply below_drew1) | exact HB.out)) hb); have n1_ := Aside0.mk (hbox); have n2_ := Aside0.mk ((by rw [hg]; exact (below_size (by repeat (first | (with_reducible first | exact HB.out | apply below_alloc | apply pw_below_drewN | apply below_drew1) | exact HB.out))) : w.heap.size ≤ gb15001)); have n3_ := Aside0.mk ((by rw [hg]; exact (below_size (by repeat (first | (with_reducible first | exact HB.out | apply below_alloc | apply pw_below_drewN | apply below_drew1) | exact HB.out))) : w.heap.size ≤ gb15001)); clear HB; have HB := n0_; have BK15001 := n1_; have GW15001 := n2_; have GE15001 := n3_; clear n0_ n1_ n2_ n3_; clear hb hbox hg; have hcz11_0 : w10.cell? ⟨gb15001, 0, none⟩ = some (.slice A0_0 l0_0.length c0_0) := (blk_cell BK15001.out 0).trans rfl; have hcz11_1 : w10.cell? ⟨gb15001, 1, none⟩ = some (.slice A0_1 l0_1.length c0_1) := (blk_cell BK15001.out 1).trans rfl; have hcz11_2 : w10.cell? ⟨gb15001, 2, none⟩ = some (.int .i64 a0_2) := (blk_cell BK15001.out 2).trans rfl; have hfz11_0 := blk_frozen BK15001.out 0; have hfz11_1 := blk_frozen BK15001.out 1; have hfz11_2 := blk_frozen BK15001.out 2) | ((with_reducible refine gate_callee (f := 63) rfl ?_); refine goesL_ (some 8) rfl rfl Try.func63 (by kernel_rfl) rfl #[.slice A0_0 l0_0.length c0_0, .int .i64 a1] rfl (by (try simp only [List.map_toArray, List.map_cons, List.map_nil]); first | done | rfl | (simp only [List.length_drop, List.length_take]; rfl)) ?_; (with_reducible refine (laws_szNodeS.calls k _ _ l0_0 a1 t15002 _ ?side1 ?side2 A3.out).mono ?_); (case side1 => repeat (first | exact (Kd.C_below HR0_0.out HB.out) | (with_reducible refine Kd.C_alloc ?_ _) | (with_reducible refine Kd.C_drewN ?_ _) | (with_reducible refine Kd.C_drew ?_))); (case side2 => exact HC0_0.out); rintro e w12 ⟨rfl, hb⟩; refine ⟨_, rfl, ?_⟩; have n0_ := Aside0.mk (blk_below (g := gb15001) (o := .cells #[.slice A0_0 l0_0.length c0_0, .slice A0_1 l0_1.length c0_1, .int .i64 a0_2] 25 (0, 0)) (by (with_reducible repeat (first | refine blk_drewN ?_ _ | refine blk_drew ?_ | refine blk_alloc ?_ _)); exact BK15001.out) hb); have n1_ := Aside0.mk (below_step (by repeat (first | (with_reducible first | exact HB.out | apply below_alloc | apply pw_below_drewN | apply below_drew1 | refine below_set ?_ GE15001.out) | exact HB.out)) hb); clear BK15001; clear HB; have BK15001 := n0_; have HB := n1_; clear n0_ n1_; (try clear hb); (try clear hb2); (try clear hk); (try clear hi); have hcz13_0 : w12.cell? ⟨gb15001, 0, none⟩ = some (.slice A0_0 l0_0.length c0_0) := (blk_cell BK15001.out 0).trans rfl; have hcz13_1 : w12.cell? ⟨gb15001, 1, none⟩ = some (.slice A0_1 l0_1.length c0_1) := (blk_cell BK15001.out 1).trans rfl; have hcz13_2 : w12.cell? ⟨gb15001, 2, none⟩ = some (.int .i64 a0_2) := (blk_cell BK15001.out 2).trans rfl; have hfz13_0 := blk_frozen BK15001.out 0; have hfz13_1 := blk_frozen BK15001.out 1; have hfz13_2 := blk_frozen BK15001.out 2) | ((with_reducible refine gate_callee (f := 64) rfl ?_); refine goesL_ (some 14) rfl rfl Try.func64 (by kernel_rfl) rfl #[.slice A0_1 l0_1.length c0_1, .int .i64 t15002] rfl (by (try simp only [List.map_toArray, List.map_cons, List.map_nil]); first | done | rfl | (simp only [List.length_drop, List.length_take]; rfl)) ?_; (with_reducible refine (laws_szTieS.calls _ _ l0_1 t15002 t15003 _ ?side1 ?side2 A8.out).mono ?_); (case side1 => repeat (first | exact (Kd.C_below HR0_1.out HB.out) | (with_reducible refine Kd.C_alloc ?_ _) | (with_reducible refine Kd.C_drewN ?_ _) | (with_reducible refine Kd.C_drew ?_))); (case side2 => exact HC0_1.out); rintro e w' ⟨rfl, ⟨nd, rfl⟩⟩; refine ⟨_, rfl, ?_⟩))
   go_ret
   exact ⟨by first | rfl | (simp [errW_none, errW_some] <;> rfl) | (simp [*, errW_none, errW_some] <;> rfl), by repeat (first | (with_reducible first | exact HB.out | apply below_alloc | apply pw_below_drewN | apply below_drew1 | refine below_set ?_ GE15001.out) | exact HB.out)⟩
  ·rw [if_neg c9] at H
   have c9b0 : decide (t15003 < 0) = false := decide_eq_false c9
   clear c9
   obtain rfl := Option.some.inj H
   go_enter Try.func15, Try.ntmps15
   go_wp2_with (first | ((with_reducible refine gate_dst (N := 2) rfl ?_); refine box_event ?hg (N := 2) ?hd (cs := #[.slice A0_0 l0_0.length c0_0, .slice A0_1 l0_1.length c0_1, .int .i64 a0_2]) (t := 25) ?hr ?_; (case hd => rfl); (case hg => rfl); (case hr => first | (go_simp; done) | (go_simp; rfl)); intro gb15001 hg w14 hbox hb; have n0_ := Aside0.mk (below_step (by repeat (first | (with_reducible first | exact HB.out | apply below_alloc | apply pw_below_drewN | apply below_drew1) | exact HB.out)) hb); have n1_ := Aside0.mk (hbox); have n2_ := Aside0.mk ((by rw [hg]; exact (below_size (by repeat (first | (with_reducible first | exact HB.out | apply below_alloc | apply pw_below_drewN | apply below_drew1) | exact HB.out))) : w.heap.size ≤ gb15001)); have n3_ := Aside0.mk ((by rw [hg]; exact (below_size (by repeat (first | (with_reducible first | exact HB.out | apply below_alloc | apply pw_below_drewN | apply below_drew1) | exact HB.out))) : w.heap.size ≤ gb15001)); clear HB; have HB := n0_; have BK15001 := n1_; have GW15001 := n2_; have GE15001 := n3_; clear n0_ n1_ n2_ n3_; clear hb hbox hg; have hcz15_0 : w14.cell? ⟨gb15001, 0, none⟩ = some (.slice A0_0 l0_0.length c0_0) := (blk_cell BK15001.out 0).trans rfl; have hcz15_1 : w14.cell? ⟨gb15001, 1, none⟩ = some (.slice A0_1 l0_1.length c0_1) := (blk_cell BK15001.out 1).trans rfl; have hcz15_2 : w14.cell? ⟨gb15001, 2, none⟩ = some (.int .i64 a0_2) := (blk_cell BK15001.out 2).trans rfl; have hfz15_0 := blk_frozen BK15001.out 0; have hfz15_1 := blk_frozen BK15001.out 1; have hfz15_2 := blk_frozen BK15001.out 2) | ((with_reducible refine gate_callee (f := 63) rfl ?_); refine goesL_ (some 8) rfl rfl Try.func63 (by kernel_rfl) rfl #[.slice A0_0 l0_0.length c0_0, .int .i64 a1] rfl (by (try simp only [List.map_toArray, List.map_cons, List.map_nil]); first | done | rfl | (simp only [List.length_drop, List.length_take]; rfl)) ?_; (with_reducible refine (laws_szNodeS.calls k _ _ l0_0 a1 t15002 _ ?side1 ?side2 A3.out).mono ?_); (case side1 => repeat (first | exact (Kd.C_below HR0_0.out HB.out) | (with_reducible refine Kd.C_alloc ?_ _) | (with_reducible refine Kd.C_drewN ?_ _) | (with_reducible refine Kd.C_drew ?_))); (case side2 => exact HC0_0.out); rintro e w16 ⟨rfl, hb⟩; refine ⟨_, rfl, ?_⟩; have n0_ := Aside0.mk (blk_below (g := gb15001) (o := .cells #[.slice A0_0 l0_0.length c0_0, .slice A0_1 l0_1.length c0_1, .int .i64 a0_2] 25 (0, 0)) (by (with_reducible repeat (first | refine blk_drewN ?_ _ | refine blk_drew ?_ | refine blk_alloc ?_ _)); exact BK15001.out) hb); have n1_ := Aside0.mk (below_step (by repeat (first | (with_reducible first | exact HB.out | apply below_alloc | apply pw_below_drewN | apply below_drew1 | refine below_set ?_ GE15001.out) | exact HB.out)) hb); clear BK15001; clear HB; have BK15001 := n0_; have HB := n1_; clear n0_ n1_; (try clear hb); (try clear hb2); (try clear hk); (try clear hi); have hcz17_0 : w16.cell? ⟨gb15001, 0, none⟩ = some (.slice A0_0 l0_0.length c0_0) := (blk_cell BK15001.out 0).trans rfl; have hcz17_1 : w16.cell? ⟨gb15001, 1, none⟩ = some (.slice A0_1 l0_1.length c0_1) := (blk_cell BK15001.out 1).trans rfl; have hcz17_2 : w16.cell? ⟨gb15001, 2, none⟩ = some (.int .i64 a0_2) := (blk_cell BK15001.out 2).trans rfl; have hfz17_0 := blk_frozen BK15001.out 0; have hfz17_1 := blk_frozen BK15001.out 1; have hfz17_2 := blk_frozen BK15001.out 2) | ((with_reducible refine gate_callee (f := 64) rfl ?_); refine goesL_ (some 14) rfl rfl Try.func64 (by kernel_rfl) rfl #[.slice A0_1 l0_1.length c0_1, .int .i64 t15002] rfl (by (try simp only [List.map_toArray, List.map_cons, List.map_nil]); first | done | rfl | (simp only [List.length_drop, List.length_take]; rfl)) ?_; (with_reducible refine (laws_szTieS.calls _ _ l0_1 t15002 t15003 _ ?side1 ?side2 A8.out).mono ?_); (case side1 => repeat (first | exact (Kd.C_below HR0_1.out HB.out) | (with_reducible refine Kd.C_alloc ?_ _) | (with_reducible refine Kd.C_drewN ?_ _) | (with_reducible refine Kd.C_drew ?_))); (case side2 => exact HC0_1.out); rintro e w' ⟨rfl, ⟨nd, rfl⟩⟩; refine ⟨_, rfl, ?_⟩))
   go_ret
   exact ⟨by first | rfl | (simp [errW_none, errW_some] <;> rfl) | (simp [*, errW_none, errW_some] <;> rfl), by repeat (first | (with_reducible first | exact HB.out | apply below_alloc | apply pw_below_drewN | apply below_drew1 | refine below_set ?_ GE15001.out) | exact HB.out)⟩

end Go.Proofs.Ytodfnelilhjoeaa.Pr
namespace Go.Proofs.Ytodfnelilhjoeaa.Pr
open Go.RowKit Go.Proofs.YtodfnelilhjoeaaW.PrintWords Go.Proofs.YtodfnelilhjoeaaW.PrintLast Go.Proofs.YtodfnelilhjoeaaW.PrintMore
attribute [local go_sem] max2_int min2_int max_two min_two max_three min_three max_four min_four
set_option linter.unusedVariables false
set_option linter.unusedSimpArgs false
open Go.Proofs.Ytodfnelilhjoeaa.Ni
theorem nodes_open {w : World} {base : Nat} {ok : Nat → Prop} {v : Value} {xs : List S116} (h : Kd.S k116 116 w base ok v xs) (hn : 0 < xs.length) :
  ∃ g cap cur, ∃ f : Nat → Nat, ∃ lv : Nat → Value, v = .slice (some ⟨g, 0, none⟩) xs.length cap ∧ base ≤ g ∧ ok g ∧ w.heap[g]? = some (.cells cur 116 (0, 0)) ∧ xs.length ≤ cap ∧ cap ≤ maxLen ∧ cur.size = cap * 3 ∧
   (∀ j, j < xs.length → cur[j * 3 + 1]? = some (lv j) ∧ Kd.R (Kd.int .i64) 3 w base (fun k => (ok k ∧ k ≠ g) ∧ f k = j) (lv j) (xs.getD j z116).f1) := by
 obtain ⟨f, hok, inner, ⟨hlen, ho⟩, hr⟩ := h
 rw [List.length_zipIdx] at ho hlen
 rcases ho with ⟨_, h0⟩ | ⟨g, cap, cur, h1, h2, h3, h4, h5, h6, h7⟩
 ·omega
 subst h1
 have key : ∀ j, j < xs.length → ∃ lv, cur[j * 3 + 1]? = some lv ∧ Kd.R (Kd.int .i64) 3 w base (fun k => (ok k ∧ k ≠ g) ∧ f k = j) lv (xs.getD j z116).f1 := by
  intro j hj
  have hm := hr.2 j _ (Kd.zip_at (getD_some hj z116))
  obtain ⟨v1, he, hR⟩ := k116_openM hm
  refine ⟨v1, ?_, Kd.R_mono hR fun k hk => ⟨⟨hk.1.1, fun e => hk.1.2 (by rw [e]; rfl)⟩, hk.2⟩⟩
  have h8 : inner[j * 3 + 1]? = some v1 := by
   have h9 : ((inner.drop (j * 3)).take 3)[1]? = some v1 := by rw [show (inner.drop (j * 3)).take 3 = _ from he]; rfl
   rw [List.getElem?_take_of_lt (by omega), List.getElem?_drop] at h9
   exact h9
  rw [← h7, List.getElem?_take_of_lt (by show _ < xs.length * 3; omega)] at h8
  simpa using h8
 refine ⟨g, cap, cur, f, fun j => if hj : j < xs.length then (key j hj).choose else .nilIface, rfl, h2, hok g rfl, h3, h4, h5, h6, fun j hj => ?_⟩
 have := (key j hj).choose_spec
 simp only [dif_pos hj]
 exact this
structure MInv (w wr : World) (ok : Nat → Prop) (f : Nat → Nat) (g n : Nat) (cur : Array Value) (i : Nat) : Prop where
 sz : w.heap.size ≤ wr.heap.size
 far : ∀ k, k < w.heap.size → k ≠ g → ¬ (ok k ∧ f k < i) → wr.heap[k]? = w.heap[k]?
 row : ∃ cur' : Array Value, wr.heap[g]? = some (.cells cur' 116 (0, 0)) ∧ cur'.size = cur.size ∧ ∀ j, j < n → cur'[j * 3 + 1]? = cur[j * 3 + 1]?
theorem MInv.below {w wr w1 : World} {ok : Nat → Prop} {f : Nat → Nat} {g n : Nat} {cur : Array Value} {i : Nat} (h : MInv w wr ok f g n cur i) (hb : Below wr.heap.size wr w1) (hg : g < w.heap.size) : MInv w w1 ok f g n cur i := by
 obtain ⟨cur', h1, h2, h3⟩ := h.row
 refine ⟨Nat.le_trans h.sz hb.size, fun k hk hkg hn => (hb.block k (Nat.lt_of_lt_of_le hk h.sz)).trans (h.far k hk hkg hn), cur', ?_, h2, h3⟩
 rw [hb.block g (Nat.lt_of_lt_of_le hg h.sz)]; exact h1
set_option maxHeartbeats 4000000 in
set_option maxRecDepth 100000 in
theorem markNodeS_k (w0 w : World) (ok : Nat → Prop) (v : Value) (xs : List S116) (hB : Below w0.heap.size w0 w) (hs : Kd.S k116 116 w w0.heap.size ok v xs) (hxs : ∀ x ∈ xs, x.f1.length ≤ 1048576) (hl : xs.length ≤ 1048576) (a : Int) (h0 : 0 ≤ a) (h1 : a ≤ 1125899906842624) :
  Calls Try.prog 78 #[v, .int .i64 a] w fun e w' => ∃ r : Int, e = .returned (.int .i64 r) ∧ Aside0 (0 ≤ r ∧ r ≤ a + xs.length * 2097152) ∧ Below w0.heap.size w0 w' ∧ Kept w w' ok := by
 by_cases hn : 0 < xs.length
 case neg =>
  obtain rfl : xs = [] := List.eq_nil_of_length_eq_zero (by omega)
  obtain ⟨A, c, rfl⟩ := Kd.S_slice hs
  have HB := Aside0.mk hB
  have HA := Aside0.mk (And.intro h0 h1)
  clear hB hs hxs hl h0 h1 hn
  go_enter Try.func78, Try.ntmps78
  go_wp2
  go_loopg [1, 5] 1 (fun gg s1 s5 wr => s1 = .int .i64 a ∧ s5 = .int .i64 0 ∧ Aside0 (wr = w))
  case atStart => exact ⟨rfl, rfl, ⟨rfl⟩⟩
  case round =>
   obtain ⟨rfl, rfl, hw⟩ := hrel
   obtain rfl := hw.out
   go_wp2
   go_ret
   exact ⟨a, rfl, ⟨by have := HA.out; simp; omega⟩, HB.out, Kept.refl _ _⟩
 obtain ⟨g, cap, cur, f, lv, rfl, hbg, hok, hg, hcap, hmax, hsz, hlab⟩ := nodes_open hs hn
 have hbound : ∀ k, ok k → w0.heap.size ≤ k ∨ True := fun _ _ => .inr trivial
 have hlt := blk_lt hg
 have HB := Aside0.mk hB; have HOK := Aside0.mk hok; have HG := Aside0.mk hg; have HBG := Aside0.mk hbg; have HLAB := Aside0.mk hlab; have HXS := Aside0.mk hxs; have HSZ := Aside0.mk hsz; have HM := Aside0.mk hmax
 obtain ⟨n, hnx⟩ : ∃ n, n = xs.length := ⟨_, rfl⟩
 rw [← hnx] at HLAB hcap hn hl
 have HNX := Aside0.mk hnx; clear hB hok hg hbg hlab hxs hsz hs hmax hbound
 rw [← hnx]
 clear hnx
 go_enter Try.func78, Try.ntmps78
 go_wp2
 go_loopg [1, 5] n (fun gg s1 s5 wr => ∃ kk : Nat, ∃ b : Int, Aside0 (kk ≤ n) ∧ Aside0 (n - kk ≤ gg) ∧ s1 = .int .i64 b ∧ s5 = .int .i64 kk ∧ Aside0 (0 ≤ b ∧ b ≤ a + kk * 2097152) ∧ Aside0 (Below w0.heap.size w0 wr) ∧ Aside0 (MInv w wr ok f g n cur kk))
 case atStart => exact ⟨0, a, ⟨Nat.zero_le _⟩, ⟨by omega⟩, rfl, rfl, ⟨by omega⟩, HB, ⟨⟨Nat.le_refl _, fun _ _ _ _ => rfl, cur, HG.out, rfl, fun _ _ => rfl⟩⟩⟩
 case round =>
  obtain ⟨kk, b, HK, HGG, rfl, rfl, HBD, HBr, HI⟩ := hrel
  by_cases hlt2 : kk < n
  ·have hltz : (kk : Int) < (n : Int) := by omega
   have hbd := HBD.out
   obtain ⟨rt, hrt⟩ := markText_f b hbd.1 (by omega) (2 ^ 64) (Nat.le_refl _)
   have HRT := Aside0.mk hrt; clear hrt
   go_wp2_with fail
   refine (laws_markText.calls (2 ^ 64) b rt _ HRT.out).mono ?_
   rintro e w1 ⟨rfl, hb⟩
   have HI1 := Aside0.mk (HI.out.below hb hlt)
   have HB1 := Aside0.mk (HBr.out.trans (hb.mono HBr.out.size))
   clear hb
   obtain ⟨cur1, hr1, hz1, hc1⟩ := HI1.out.row
   have hin : kk * 3 + 2 < cur1.size := by have := HSZ.out; omega
   obtain ⟨hlv, hR⟩ := HLAB.out kk hlt2
   obtain ⟨Al, cl, el⟩ := Kd.R_slice hR
   have q1 : w1.cell? ⟨g, kk * 3 + 1, none⟩ = some (.slice Al (xs.getD kk z116).f1.length cl) := by
    rw [blk_cell hr1, hc1 kk hlt2, hlv, el]
   have f0 := blk_frozen hr1 (kk * 3)
   have q0 := blk_cell hr1 (kk * 3)
   obtain ⟨u0, hu0⟩ : ∃ u, cur1[kk * 3]? = some u := ⟨_, Array.getElem?_eq_getElem (by omega)⟩
   rw [hu0] at q0
   rw [el] at hR
   have HR := Aside0.mk hR; have HR1 := Aside0.mk hr1; have HC1 := Aside0.mk hc1; have HZ1 := Aside0.mk hz1
   have hlx : (xs.getD kk z116).f1.length ≤ 1048576 := HXS.out _ (getD_mem (by have := HNX.out; omega) _)
   have HRL := Aside0.mk hR.1
   generalize hlab' : (xs.getD kk z116).f1 = lb at q1 HR hlx
   clear hlv hR el hr1 hc1 hz1 hlab' HRL
   have HMK := Aside0.mk (markIntS_f lb hlx (b + 1) (by omega) (by omega) (2 ^ 64) (Nat.le_refl _))
   go_wp2_with fail
   refine (laws_markIntS.calls (2 ^ 64) (fun k => (ok k ∧ k ≠ g) ∧ f k = kk) _ lb (b + 1) _ _ w0 _ ?hb ?hr HMK.out).mono ?_
   case hb => exact below_set HB1.out HBG.out
   case hr => exact Kd.R_step HR.out fun k hk hlt3 => (Below.heap_setCell w1 _ _ k hk.1.2).trans (HI1.out.far k hlt3 hk.1.2 (by rintro ⟨_, h9⟩; have := hk.2; omega))
   rintro e w2 ⟨rfl, _, hb2, hk2⟩
   have hr2 : w2.heap[g]? = some (.cells (cur1.setIfInBounds (kk * 3) (.string rt)) 116 (0, 0)) := blk_kept (blk_put HR1.out (kk * 3) (.string rt) rfl) hk2 (fun h9 => h9.1.2 rfl)
   have f2 := blk_frozen hr2 (kk * 3 + 2)
   have q2 := blk_cell hr2 (kk * 3 + 2)
   obtain ⟨u2, hu2⟩ : ∃ u, (cur1.setIfInBounds (kk * 3) (.string rt))[kk * 3 + 2]? = some u := ⟨_, Array.getElem?_eq_getElem (by simp; omega)⟩
   rw [hu2] at q2
   have HR2 := Aside0.mk hr2; have HB2 := Aside0.mk hb2; have HK2 := Aside0.mk hk2; clear hr2 hb2 hk2 hu2 hu0 f0 q0 q1
   have hw1 : IntKind.i64.wrap (b + 1 + lb.length + 1) = b + 1 + lb.length + 1 := by simp [IntKind.wrap, IntKind.signed, IntKind.bits]; omega
   have hw2 : wrap64 (b + 1 + lb.length + 1) = b + 1 + lb.length + 1 := wrap_id (by omega) (by omega)
   go_wp2
   go_roundg (n - (kk + 1))
   case measure => have := HGG.out; omega
   case rel =>
    refine ⟨kk + 1, b + 1 + lb.length + 1, ⟨by omega⟩, ⟨by omega⟩, by first | rfl | go_num, by go_num, ⟨by omega⟩, ⟨below_set HB2.out HBG.out⟩, ⟨?_, ?_, ?_⟩⟩
    ·have h9 := HK2.out.1
     have h8 := HI1.out.sz
     simp [World.setCell] at h9 ⊢
     omega
    ·intro k hk hkg hn9
     have hk8 : k < w1.heap.size := Nat.lt_of_lt_of_le hk HI1.out.sz
     rw [Below.heap_setCell w2 _ _ k hkg, HK2.out.2 k (by simpa [World.setCell] using hk8) (fun h7 => hn9 ⟨h7.1.1, by have := h7.2; omega⟩), Below.heap_setCell w1 _ _ k hkg]
     exact HI1.out.far k hk hkg (fun h7 => hn9 ⟨h7.1, by have := h7.2; omega⟩)
    ·refine ⟨_, blk_put HR2.out (kk * 3 + 2) _ rfl, by simpa using HZ1.out, fun j hj => ?_⟩
     rw [Array.getElem?_setIfInBounds_ne (by omega), Array.getElem?_setIfInBounds_ne (by omega)]
     exact HC1.out j hj
  ·have hltz : ¬ (kk : Int) < (n : Int) := by omega
   have : kk = n := by have := HK.out; omega
   subst this
   go_wp2
   go_ret
   refine ⟨b, rfl, ⟨by have := HBD.out; have := HNX.out; omega⟩, HBr.out, HI.out.sz, fun k hk hn9 => HI.out.far k hk (fun e => hn9 (e ▸ HOK.out)) (fun h7 => hn9 h7.1)⟩

set_option maxHeartbeats 4000000 in
set_option maxRecDepth 100000 in
theorem markShow_k (w0 w : World) (b : Nat) (v0 v1 : Value) (ns : List S116) (ts : List S90) (z : Int) (hB : Below w0.heap.size w0 w) (hs : Kd.S k116 116 w w0.heap.size (fun k => k < b) v0 ns) (ht : Kd.R k90 90 w w0.heap.size (fun k => k < b) v1 ts)
  (hxs : ∀ x ∈ ns, x.f1.length ≤ 1048576) (hl : ns.length ≤ 1048576) (hl2 : ts.length ≤ 1048576) (a : Int) (h0 : 0 ≤ a) (h1 : a ≤ 562949953421312) :
  Calls Try.prog 26 #[.agg #[v0, v1, .int .i64 z], .int .i64 a] w fun e w' => ∃ r : Int, e = .returned (.int .i64 r) ∧ Aside0 (0 ≤ r ∧ r ≤ a + 4398046511104) ∧ Below w0.heap.size w0 w' ∧ Kept w w' (fun k => k < b) := by
 obtain ⟨A0, c0, e0⟩ := Kd.S_slice hs
 obtain ⟨A1, c1, e1⟩ := Kd.R_slice ht
 have hty := Kd.R_typed ht
 have hs2 := Kd.S_bound (Kd.S_apart' hs hty (by decide))
 have hbox : ∀ k, (((k < b ∧ some k ≠ v1.ownBlock) ∧ w0.heap.size ≤ k ∧ k < w.heap.size ∧ ∃ q, q ∈ 116 :: Kd.E k116 ∧ ∃ cells, w.heap[k]? = some (.cells cells q (0, 0)))) → k < b ∧ some k ≠ v1.ownBlock ∧ k < w.heap.size := fun k hk => ⟨hk.1.1, hk.1.2, hk.2.2.1⟩
 have HS := Aside0.mk (Kd.S_mono hs2 hbox)
 have HT := Aside0.mk (Kd.R_tight (by rfl) ht)
 have HTB := Aside0.mk fun k (hk : v1.ownBlock = some k) => ht.1 k hk
 have HTL := Aside0.mk (Kd.R_lt ht)
 have HB := Aside0.mk hB; have HXS := Aside0.mk hxs
 have hu := Try.underlying35
 subst e0; subst e1
 have hsz := hB.size
 clear hs ht hs2 hty hbox hB hxs
 have HC1 := Aside0.mk fun (W : World) (hb : Below w.heap.size w W) => markNodeS_k w0 W _ _ ns (HB.out.trans (hb.mono hsz)) (Kd.S_below HS.out hb) HXS.out hl a h0 (by omega)
 have B1 := Aside0.mk (below_alloc (Below.refl w.heap.size w) (.cells #[.slice A0 ns.length c0, .slice A1 ts.length c1, .int .i64 z] 35))
 go_enter Try.func26, Try.ntmps26
 go_wp2_with fail
 refine (HC1.out _ B1.out).mono ?_
 rintro e w1 ⟨r1, rfl, HR1, hb1, hk1⟩
 have s1 : w1.cell? ⟨w.heap.size, 1, none⟩ = some (.slice A1 ts.length c1) := cell_kept (W := w.alloc _) (by go_simp) hk1 (by simp)
 have hkk : Kept w w1 (fun k => k < b) := (Kept.of_below B1.out _).then_ hk1 (fun k hk => .inl hk.1)
 have hr1 := HR1.out
 obtain ⟨l2, hf⟩ := markTieS_f ts hl2 r1 hr1.1 (by omega) (2 ^ 64) (Nat.le_refl _)
 have HF := Aside0.mk hf
 have HT2 := Aside0.mk (Kd.R_kept (Kd.R_below HT.out B1.out) hk1 (fun k hk h2 => h2.2.1 hk))
 have HB1 := Aside0.mk hb1; have HKK := Aside0.mk hkk; clear hb1 hk1 hf hkk
 go_wp2_with fail
 refine (laws_markTieS.calls (2 ^ 64) (fun k => some k = (Value.slice A1 ts.length c1).ownBlock) _ ts r1 _ _ w0 _ HB1.out HT2.out HF.out).mono ?_
 rintro e w2 ⟨rfl, _, hb2, hk2⟩
 have HB2 := Aside0.mk hb2
 have HK2 := Aside0.mk (HKK.out.then_ hk2 (fun k hk => .inl (HTB.out k hk.symm)))
 clear hb2 hk2 s1
 go_wp2
 go_ret
 exact ⟨_, rfl, ⟨by have := HR1.out; omega⟩, HB2.out, HK2.out⟩

set_option maxHeartbeats 4000000 in
set_option maxRecDepth 100000 in
theorem laws_eqNode.same (a0 : ByteArray) (A1 : Option Addr) (c1 : Nat) (A1' : Option Addr) (c1' : Nat) (l1 : List Int) (a2 : Int) (w : World) (hr1 : Kd.C (Kd.int .i64) w A1 l1.length l1) (hc1 : l1.length ≤ c1) (hr1' : Kd.C (Kd.int .i64) w A1' l1.length l1) (hc1' : l1.length ≤ c1') :
  Calls Try.prog 127 #[.agg #[.string a0, .slice A1 l1.length c1, .int .i64 a2], .agg #[.string a0, .slice A1' l1.length c1', .int .i64 a2]] w fun e w' => e = .returned (.bool true) ∧ Below w.heap.size w w' := by
 have hu := Try.underlying116
 have H1 := Aside0.mk fun (W : World) (hb : Below w.heap.size w W) => (laws_eqIntS.calls (2 ^ 64) A1 c1 l1 A1' c1' l1 true W (Kd.C_below hr1 hb) hc1 (Kd.C_below hr1' hb) hc1' (eqIntS_refl l1 hr1.2.1 (2 ^ 64) (Nat.le_refl _))).mono fun e w' ⟨he, hd⟩ => (And.intro he hd.below : e = Ending.returned (.bool true) ∧ Below W.heap.size W w')
 clear hr1 hc1 hr1' hc1'
 have HB0 := Aside0.mk (below_alloc (below_alloc (Below.refl w.heap.size w) (.cells #[.string a0, .slice A1 l1.length c1, .int .i64 a2] 116)) (.cells #[.string a0, .slice A1' l1.length c1', .int .i64 a2] 116))
 go_enter Try.func127, Try.ntmps127
 go_wp2_with fail
 refine (H1.out _ HB0.out).mono ?_
 rintro e w1 ⟨rfl, hb⟩
 have HB1 := Aside0.mk (HB0.out.trans (hb.mono HB0.out.size))
 have s2 : w1.cell? ⟨w.heap.size, 2, none⟩ = some (.int .i64 a2) := kcell hb (by go_simp)
 have t2 : w1.cell? ⟨w.heap.size + 1, 2, none⟩ = some (.int .i64 a2) := kcell hb (by go_simp)
 clear hb
 go_wp2
 go_ret
 exact ⟨rfl, HB1.out⟩

set_option maxHeartbeats 4000000 in
set_option maxRecDepth 100000 in
theorem laws_eqNodeS.same (A0 : Option Addr) (c0 : Nat) (A0' : Option Addr) (c0' : Nat) (l0 : List (S116)) (w : World) (hr0 : Kd.C k116 w A0 l0.length l0) (hc0 : l0.length ≤ c0) (hr0' : Kd.C k116 w A0' l0.length l0) (hc0' : l0.length ≤ c0') :
  Calls Try.prog 74 #[.slice A0 l0.length c0, .slice A0' l0.length c0'] w fun e w' => e = .returned (.bool true) ∧ Below w.heap.size w w' := by
 have hL : l0.length ≤ 9223372036854775807 := hr0.2.1
 have HR := Aside0.mk hr0
 have HS := Aside0.mk hr0'
 clear hr0 hr0'
 go_enter Try.func74, Try.ntmps74
 go_wp2
 go_loopg [5] l0.length (fun gg s5 wr => ∃ kk : Nat, Aside0 (kk ≤ l0.length) ∧ Aside0 (l0.length - kk ≤ gg) ∧ s5 = .int .i64 kk ∧ Aside0 (Below w.heap.size w wr))
 case atStart => exact ⟨0, ⟨Nat.zero_le _⟩, ⟨by omega⟩, rfl, ⟨Below.refl _ _⟩⟩
 case round =>
  obtain ⟨kk, HK, HG, rfl, HBr⟩ := hrel
  by_cases hlt : kk < l0.length
  ·have hltz : (kk : Int) < (l0.length : Int) := by omega
   obtain ⟨adx, A1x, c1x, ex, hx0, hx1, hx2, l1x, g1x⟩ := at_T116 HR.out (kk : Int) (by omega) hltz
   obtain ⟨ady, A1y, c1y, ey, hy0, hy1, hy2, l1y, g1y⟩ := at_T116 HS.out (kk : Int) (by omega) hltz
   cases ex
   cases ey
   rw [Int.toNat_natCast] at hx0 hx1 hx2 hy0 hy1 hy2
   generalize rd_T116 l0 (kk : Int) = y at hx0 hx1 hx2 l1x g1x hy0 hy1 hy2 l1y g1y
   replace hx0 := kcell HBr.out hx0
   replace hx1 := kcell HBr.out hx1
   replace hx2 := kcell HBr.out hx2
   replace hy0 := kcell HBr.out hy0
   replace hy1 := kcell HBr.out hy1
   replace hy2 := kcell HBr.out hy2
   have hltx := World.block_lt_of_cell? wr _ hx0
   have hlty := World.block_lt_of_cell? wr _ hy0
   have G1x := Aside0.mk g1x; have G1y := Aside0.mk g1y; clear g1x g1y
   go_wp2_with fail
   go_region_held3 (fun w' => Below wr.heap.size wr w' ∧ w'.cell? (adx.add (kk * 3)) = some (.string y.f0) ∧ w'.cell? ⟨(adx.add (kk * 3)).block, (adx.add (kk * 3)).off + 1, none⟩ = some (.slice A1x y.f1.length c1x) ∧ w'.cell? ⟨(adx.add (kk * 3)).block, (adx.add (kk * 3)).off + 2, none⟩ = some (.int .i64 y.f2) ∧ w'.cell? (ady.add (kk * 3)) = some (.string y.f0) ∧ w'.cell? ⟨(ady.add (kk * 3)).block, (ady.add (kk * 3)).off + 1, none⟩ = some (.slice A1y y.f1.length c1y) ∧ w'.cell? ⟨(ady.add (kk * 3)).block, (ady.add (kk * 3)).off + 2, none⟩ = some (.int .i64 y.f2))
    (first | (refine ⟨by repeat (first | (with_reducible first | exact Below.refl _ _ | apply below_alloc | apply pw_below_drewN | apply below_drew1 | exact (‹Below wr.heap.size wr _ ∧ _› : Below wr.heap.size wr _ ∧ _).1) | exact Below.refl _ _), ?_⟩; go_simp; done) | (have HQ_ := below_step (‹Below wr.heap.size wr _ ∧ _› : Below wr.heap.size wr _ ∧ _).1 hb; exact ⟨HQ_, kcell HQ_ hx0, kcell HQ_ hx1, kcell HQ_ hx2, kcell HQ_ hy0, kcell HQ_ hy1, kcell HQ_ hy2⟩))
    (first | (go_at_call 127; (refine (laws_eqNode.same y.f0 A1x c1x A1y c1y y.f1 y.f2 _ ?p0 l1x ?p1 l1y).mono ?_); (case p0 => exact (Kd.C_below (Kd.C_below G1x.out HBr.out) (‹Below wr.heap.size wr _ ∧ _› : Below wr.heap.size wr _ ∧ _).1)); (case p1 => exact (Kd.C_below (Kd.C_below G1y.out HBr.out) (‹Below wr.heap.size wr _ ∧ _› : Below wr.heap.size wr _ ∧ _).1)); rintro e w3 ⟨rfl, hb⟩))
   have HB3 := Aside0.mk (‹Below wr.heap.size wr w3 ∧ _› : Below wr.heap.size wr w3 ∧ _).1
   go_wp2
   go_roundg (l0.length - (kk + 1))
   case measure => have := HG.out; omega
   case rel => exact ⟨kk + 1, ⟨by omega⟩, ⟨by omega⟩, by go_num, ⟨HBr.out.trans (HB3.out.mono HBr.out.size)⟩⟩
  ·have hltz : ¬ (kk : Int) < (l0.length : Int) := by omega
   have : kk = l0.length := by have := HK.out; omega
   subst this
   go_wp2
   go_ret
   exact ⟨rfl, HBr.out⟩

set_option maxHeartbeats 4000000 in
set_option maxRecDepth 100000 in
theorem laws_eqTie.same (a0 : Int) (a1 : Int) (a2 : Int) (a3 : Int) (a4 : Bool) (w : World)  :
  Calls Try.prog 128 #[.agg #[.int .i64 a0, .int .i64 a1, .int .i64 a2, .int .i64 a3, .bool a4], .agg #[.int .i64 a0, .int .i64 a1, .int .i64 a2, .int .i64 a3, .bool a4]] w fun e w' => e = .returned (.bool true) ∧ Below w.heap.size w w' := by
 have hu := Try.underlying90
 have HB0 := Aside0.mk (below_alloc (below_alloc (Below.refl w.heap.size w) (.cells #[.int .i64 a0, .int .i64 a1, .int .i64 a2, .int .i64 a3, .bool a4] 90)) (.cells #[.int .i64 a0, .int .i64 a1, .int .i64 a2, .int .i64 a3, .bool a4] 90))
 go_enter Try.func128, Try.ntmps128
 go_wp2
 go_ret
 exact ⟨rfl, HB0.out⟩

set_option maxHeartbeats 4000000 in
set_option maxRecDepth 100000 in
theorem laws_eqTieS.same (A0 : Option Addr) (c0 : Nat) (A0' : Option Addr) (c0' : Nat) (l0 : List (S90)) (w : World) (hr0 : Kd.C k90 w A0 l0.length l0) (hc0 : l0.length ≤ c0) (hr0' : Kd.C k90 w A0' l0.length l0) (hc0' : l0.length ≤ c0') :
  Calls Try.prog 75 #[.slice A0 l0.length c0, .slice A0' l0.length c0'] w fun e w' => e = .returned (.bool true) ∧ Below w.heap.size w w' := by
 have hL : l0.length ≤ 9223372036854775807 := hr0.2.1
 have HR := Aside0.mk hr0
 have HS := Aside0.mk hr0'
 clear hr0 hr0'
 go_enter Try.func75, Try.ntmps75
 go_wp2
 go_loopg [5] l0.length (fun gg s5 wr => ∃ kk : Nat, Aside0 (kk ≤ l0.length) ∧ Aside0 (l0.length - kk ≤ gg) ∧ s5 = .int .i64 kk ∧ Aside0 (Below w.heap.size w wr))
 case atStart => exact ⟨0, ⟨Nat.zero_le _⟩, ⟨by omega⟩, rfl, ⟨Below.refl _ _⟩⟩
 case round =>
  obtain ⟨kk, HK, HG, rfl, HBr⟩ := hrel
  by_cases hlt : kk < l0.length
  ·have hltz : (kk : Int) < (l0.length : Int) := by omega
   obtain ⟨adx, ex, hx0, hx1, hx2, hx3, hx4⟩ := at_T90 HR.out (kk : Int) (by omega) hltz
   obtain ⟨ady, ey, hy0, hy1, hy2, hy3, hy4⟩ := at_T90 HS.out (kk : Int) (by omega) hltz
   cases ex
   cases ey
   rw [Int.toNat_natCast] at hx0 hx1 hx2 hx3 hx4 hy0 hy1 hy2 hy3 hy4
   generalize rd_T90 l0 (kk : Int) = y at hx0 hx1 hx2 hx3 hx4 hy0 hy1 hy2 hy3 hy4
   replace hx0 := kcell HBr.out hx0
   replace hx1 := kcell HBr.out hx1
   replace hx2 := kcell HBr.out hx2
   replace hx3 := kcell HBr.out hx3
   replace hx4 := kcell HBr.out hx4
   replace hy0 := kcell HBr.out hy0
   replace hy1 := kcell HBr.out hy1
   replace hy2 := kcell HBr.out hy2
   replace hy3 := kcell HBr.out hy3
   replace hy4 := kcell HBr.out hy4
   have hltx := World.block_lt_of_cell? wr _ hx0
   have hlty := World.block_lt_of_cell? wr _ hy0
   go_wp2_with fail
   go_region_held3 (fun w' => Below wr.heap.size wr w' ∧ w'.cell? (adx.add (kk * 5)) = some (.int .i64 y.f0) ∧ w'.cell? ⟨(adx.add (kk * 5)).block, (adx.add (kk * 5)).off + 1, none⟩ = some (.int .i64 y.f1) ∧ w'.cell? ⟨(adx.add (kk * 5)).block, (adx.add (kk * 5)).off + 2, none⟩ = some (.int .i64 y.f2) ∧ w'.cell? ⟨(adx.add (kk * 5)).block, (adx.add (kk * 5)).off + 3, none⟩ = some (.int .i64 y.f3) ∧ w'.cell? ⟨(adx.add (kk * 5)).block, (adx.add (kk * 5)).off + 4, none⟩ = some (.bool y.f4) ∧ w'.cell? (ady.add (kk * 5)) = some (.int .i64 y.f0) ∧ w'.cell? ⟨(ady.add (kk * 5)).block, (ady.add (kk * 5)).off + 1, none⟩ = some (.int .i64 y.f1) ∧ w'.cell? ⟨(ady.add (kk * 5)).block, (ady.add (kk * 5)).off + 2, none⟩ = some (.int .i64 y.f2) ∧ w'.cell? ⟨(ady.add (kk * 5)).block, (ady.add (kk * 5)).off + 3, none⟩ = some (.int .i64 y.f3) ∧ w'.cell? ⟨(ady.add (kk * 5)).block, (ady.add (kk * 5)).off + 4, none⟩ = some (.bool y.f4))
    (first | (refine ⟨by repeat (first | (with_reducible first | exact Below.refl _ _ | apply below_alloc | apply pw_below_drewN | apply below_drew1 | exact (‹Below wr.heap.size wr _ ∧ _› : Below wr.heap.size wr _ ∧ _).1) | exact Below.refl _ _), ?_⟩; go_simp; done) | (have HQ_ := below_step (‹Below wr.heap.size wr _ ∧ _› : Below wr.heap.size wr _ ∧ _).1 hb; exact ⟨HQ_, kcell HQ_ hx0, kcell HQ_ hx1, kcell HQ_ hx2, kcell HQ_ hx3, kcell HQ_ hx4, kcell HQ_ hy0, kcell HQ_ hy1, kcell HQ_ hy2, kcell HQ_ hy3, kcell HQ_ hy4⟩))
    (first | (go_at_call 128; (refine (laws_eqTie.same y.f0 y.f1 y.f2 y.f3 y.f4 _ ).mono ?_); rintro e w3 ⟨rfl, hb⟩))
   have HB3 := Aside0.mk (‹Below wr.heap.size wr w3 ∧ _› : Below wr.heap.size wr w3 ∧ _).1
   go_wp2
   go_roundg (l0.length - (kk + 1))
   case measure => have := HG.out; omega
   case rel => exact ⟨kk + 1, ⟨by omega⟩, ⟨by omega⟩, by go_num, ⟨HBr.out.trans (HB3.out.mono HBr.out.size)⟩⟩
  ·have hltz : ¬ (kk : Int) < (l0.length : Int) := by omega
   have : kk = l0.length := by have := HK.out; omega
   subst this
   go_wp2
   go_ret
   exact ⟨rfl, HBr.out⟩

set_option maxHeartbeats 4000000 in
set_option maxRecDepth 100000 in
theorem laws_eqShow.same (A0 : Option Addr) (c0 : Nat) (A0' : Option Addr) (c0' : Nat) (l0 : List (S116)) (A1 : Option Addr) (c1 : Nat) (A1' : Option Addr) (c1' : Nat) (l1 : List (S90)) (a2 : Int) (w : World) (hr0 : Kd.C k116 w A0 l0.length l0) (hc0 : l0.length ≤ c0) (hr0' : Kd.C k116 w A0' l0.length l0) (hc0' : l0.length ≤ c0') (hr1 : Kd.C k90 w A1 l1.length l1) (hc1 : l1.length ≤ c1) (hr1' : Kd.C k90 w A1' l1.length l1) (hc1' : l1.length ≤ c1') :
  Calls Try.prog 21 #[.agg #[.slice A0 l0.length c0, .slice A1 l1.length c1, .int .i64 a2], .agg #[.slice A0' l0.length c0', .slice A1' l1.length c1', .int .i64 a2]] w fun e w' => e = .returned (.bool true) ∧ Below w.heap.size w w' := by
 have hu := Try.underlying35
 have H0 := Aside0.mk fun (W : World) (hb : Below w.heap.size w W) => laws_eqNodeS.same A0 c0 A0' c0' l0 W (Kd.C_below hr0 hb) hc0 (Kd.C_below hr0' hb) hc0'
 have H1 := Aside0.mk fun (W : World) (hb : Below w.heap.size w W) => laws_eqTieS.same A1 c1 A1' c1' l1 W (Kd.C_below hr1 hb) hc1 (Kd.C_below hr1' hb) hc1'
 clear hr0 hc0 hr0' hc0' hr1 hc1 hr1' hc1'
 have HB0 := Aside0.mk (below_alloc (below_alloc (Below.refl w.heap.size w) (.cells #[.slice A0 l0.length c0, .slice A1 l1.length c1, .int .i64 a2] 35)) (.cells #[.slice A0' l0.length c0', .slice A1' l1.length c1', .int .i64 a2] 35))
 go_enter Try.func21, Try.ntmps21
 go_wp2_with fail
 refine (H0.out _ HB0.out).mono ?_
 rintro e w1 ⟨rfl, hb⟩
 have HB1 := Aside0.mk (HB0.out.trans (hb.mono HB0.out.size))
 have s1 : w1.cell? ⟨w.heap.size, 1, none⟩ = some (.slice A1 l1.length c1) := kcell hb (by go_simp)
 have t1 : w1.cell? ⟨w.heap.size + 1, 1, none⟩ = some (.slice A1' l1.length c1') := kcell hb (by go_simp)
 have s2 : w1.cell? ⟨w.heap.size, 2, none⟩ = some (.int .i64 a2) := kcell hb (by go_simp)
 have t2 : w1.cell? ⟨w.heap.size + 1, 2, none⟩ = some (.int .i64 a2) := kcell hb (by go_simp)
 clear hb
 go_wp2_with fail
 refine (H1.out _ HB1.out).mono ?_
 rintro e w2 ⟨rfl, hb⟩
 have HB2 := Aside0.mk (HB1.out.trans (hb.mono HB1.out.size))
 replace s2 := kcell hb s2
 replace t2 := kcell hb t2
 clear hb s1 t1
 go_wp2
 go_ret
 exact ⟨rfl, HB2.out⟩

set_option maxHeartbeats 4000000 in
set_option maxRecDepth 100000 in
theorem laws_eqState.same (a0 : Int) (A1 : Option Addr) (c1 : Nat) (A1' : Option Addr) (c1' : Nat) (l1 : List Int) (A2 : Option Addr) (c2 : Nat) (A2' : Option Addr) (c2' : Nat) (l2 : List Int) (w : World) (hr1 : Kd.C (Kd.int .i64) w A1 l1.length l1) (hc1 : l1.length ≤ c1) (hr1' : Kd.C (Kd.int .i64) w A1' l1.length l1) (hc1' : l1.length ≤ c1') (hr2 : Kd.C (Kd.int .i64) w A2 l2.length l2) (hc2 : l2.length ≤ c2) (hr2' : Kd.C (Kd.int .i64) w A2' l2.length l2) (hc2' : l2.length ≤ c2') :
  Calls Try.prog 42 #[.agg #[.int .i64 a0, .slice A1 l1.length c1, .slice A2 l2.length c2], .agg #[.int .i64 a0, .slice A1' l1.length c1', .slice A2' l2.length c2']] w fun e w' => e = .returned (.bool true) ∧ Below w.heap.size w w' := by
 have hu := Try.underlying66
 have H1 := Aside0.mk fun (W : World) (hb : Below w.heap.size w W) => (laws_eqIntS.calls (2 ^ 64) A1 c1 l1 A1' c1' l1 true W (Kd.C_below hr1 hb) hc1 (Kd.C_below hr1' hb) hc1' (eqIntS_refl l1 hr1.2.1 (2 ^ 64) (Nat.le_refl _))).mono fun e w' ⟨he, hd⟩ => (And.intro he hd.below : e = Ending.returned (.bool true) ∧ Below W.heap.size W w')
 have H2 := Aside0.mk fun (W : World) (hb : Below w.heap.size w W) => (laws_eqIntS.calls (2 ^ 64) A2 c2 l2 A2' c2' l2 true W (Kd.C_below hr2 hb) hc2 (Kd.C_below hr2' hb) hc2' (eqIntS_refl l2 hr2.2.1 (2 ^ 64) (Nat.le_refl _))).mono fun e w' ⟨he, hd⟩ => (And.intro he hd.below : e = Ending.returned (.bool true) ∧ Below W.heap.size W w')
 clear hr1 hc1 hr1' hc1' hr2 hc2 hr2' hc2'
 have HB0 := Aside0.mk (below_alloc (below_alloc (Below.refl w.heap.size w) (.cells #[.int .i64 a0, .slice A1 l1.length c1, .slice A2 l2.length c2] 66)) (.cells #[.int .i64 a0, .slice A1' l1.length c1', .slice A2' l2.length c2'] 66))
 go_enter Try.func42, Try.ntmps42
 go_wp2_with fail
 refine (H1.out _ HB0.out).mono ?_
 rintro e w1 ⟨rfl, hb⟩
 have HB1 := Aside0.mk (HB0.out.trans (hb.mono HB0.out.size))
 have s2 : w1.cell? ⟨w.heap.size, 2, none⟩ = some (.slice A2 l2.length c2) := kcell hb (by go_simp)
 have t2 : w1.cell? ⟨w.heap.size + 1, 2, none⟩ = some (.slice A2' l2.length c2') := kcell hb (by go_simp)
 clear hb
 go_wp2_with fail
 refine (H2.out _ HB1.out).mono ?_
 rintro e w2 ⟨rfl, hb⟩
 have HB2 := Aside0.mk (HB1.out.trans (hb.mono HB1.out.size))
 clear hb s2 t2
 go_wp2
 go_ret
 exact ⟨rfl, HB2.out⟩

end Go.Proofs.Ytodfnelilhjoeaa.Pr
namespace Go.Proofs.Ytodfnelilhjoeaa.Pr
open Go.RowKit Go.Proofs.YtodfnelilhjoeaaW.PrintWords Go.Proofs.YtodfnelilhjoeaaW.PrintLast Go.Proofs.YtodfnelilhjoeaaW.PrintMore
attribute [local go_sem] max2_int min2_int max_two min_two max_three min_three max_four min_four
set_option linter.unusedVariables false
set_option linter.unusedSimpArgs false
theorem laws_toShow.o (k : Nat) (A0_0 : Option Addr) (c0_0 : Nat) (l0_0 : List (S127)) (A0_1 : Option Addr) (c0_1 : Nat) (l0_1 : List (S130)) (a0_2 : Int) (r1 : List (S116)) (r2 : List (S90)) (r3 : Int) (w : World) (hr0_0 : Kd.C k127 w A0_0 l0_0.length l0_0) (hc0_0 : l0_0.length ≤ c0_0) (hr0_1 : Kd.C k130 w A0_1 l0_1.length l0_1) (hc0_1 : l0_1.length ≤ c0_1) (h : laws_toShow.f k l0_0 l0_1 a0_2 = some (r1, r2, r3)) :
  Calls Try.prog 18 #[.agg #[.slice A0_0 l0_0.length c0_0, .slice A0_1 l0_1.length c0_1, .int .i64 a0_2]] w fun e w' => ∃ A0_ c0_ A1_ c1_, e = .returned (.agg #[.slice A0_ r1.length c0_, .slice A1_ r2.length c1_, .int .i64 r3]) ∧ Aside0 (r1.length ≤ c0_ ∧ Kd.C k116 w' A0_ r1.length r1) ∧ Aside0 (r2.length ≤ c1_ ∧ Kd.C k90 w' A1_ r2.length r2) ∧ Aside0 (Kd.S k116 116 w' w.heap.size (fun k_ => True ∧ (w.heap.size ≤ k_ ∧ k_ < w'.heap.size)) (.slice A0_ r1.length c0_) r1 ∧ Kd.R k90 90 w' w.heap.size (fun k_ => True ∧ (w.heap.size ≤ k_ ∧ k_ < w'.heap.size)) (.slice A1_ r2.length c1_) r2) ∧ Below w.heap.size w w' :=
 (laws_toShow.calls k A0_0 c0_0 l0_0 A0_1 c0_1 l0_1 a0_2 r1 r2 r3 w hr0_0 hc0_0 hr0_1 hc0_1 h).mono fun e w' ⟨v0_, v1_, he, q0_, q1_, hb⟩ => by
  obtain ⟨A0_, c0_, rfl, g0_⟩ := Kd.S_reads q0_
  obtain ⟨A1_, c1_, rfl, g1_⟩ := Kd.R_reads q1_
  exact ⟨A0_, c0_, A1_, c1_, he, ⟨g0_⟩, ⟨g1_⟩, ⟨Kd.S_mono (Kd.S_bound q0_) (fun k hk => ⟨hk.1, hk.2.1, hk.2.2.1⟩), Kd.R_mono (Kd.R_bound q1_) (fun k hk => ⟨hk.1, hk.2.1, hk.2.2.1⟩)⟩, hb⟩

theorem impl_StartState.o (A0_0 : Option Addr) (c0_0 : Nat) (l0_0 : List (S116)) (A0_1 : Option Addr) (c0_1 : Nat) (l0_1 : List (S90)) (a0_2 : Int) (r1 : Int) (r2 : List Int) (r3 : List Int) (w : World) (hr0_0 : Kd.C k116 w A0_0 l0_0.length l0_0) (hc0_0 : l0_0.length ≤ c0_0) (hr0_1 : Kd.C k90 w A0_1 l0_1.length l0_1) (hc0_1 : l0_1.length ≤ c0_1) (h : impl_StartState.f l0_0 l0_1 a0_2 = some (r1, r2, r3)) :
  Calls Try.prog 46 #[.agg #[.slice A0_0 l0_0.length c0_0, .slice A0_1 l0_1.length c0_1, .int .i64 a0_2]] w fun e w' => ∃ A0_ c0_ A1_ c1_, e = .returned (.agg #[.int .i64 r1, .slice A0_ r2.length c0_, .slice A1_ r3.length c1_]) ∧ Aside0 (r2.length ≤ c0_ ∧ Kd.C (Kd.int .i64) w' A0_ r2.length r2) ∧ Aside0 (r3.length ≤ c1_ ∧ Kd.C (Kd.int .i64) w' A1_ r3.length r3) ∧ Aside0 (Kd.R (Kd.int .i64) 3 w' w.heap.size (fun k_ => (some k_ ≠ ((.slice A1_ r3.length c1_) : Value).ownBlock) ∧ (w.heap.size ≤ k_ ∧ k_ < w'.heap.size)) (.slice A0_ r2.length c0_) r2 ∧ Kd.R (Kd.int .i64) 3 w' w.heap.size (fun k_ => (some k_ ≠ ((.slice A0_ r2.length c0_) : Value).ownBlock) ∧ (w.heap.size ≤ k_ ∧ k_ < w'.heap.size)) (.slice A1_ r3.length c1_) r3) ∧ Below w.heap.size w w' :=
 (impl_StartState.calls A0_0 c0_0 l0_0 A0_1 c0_1 l0_1 a0_2 r1 r2 r3 w hr0_0 hc0_0 hr0_1 hc0_1 h).mono fun e w' ⟨v1_, v2_, he, q0_, q1_, hb⟩ => by
  obtain ⟨A0_, c0_, rfl, g0_⟩ := Kd.R_reads q0_
  obtain ⟨A1_, c1_, rfl, g1_⟩ := Kd.R_reads q1_
  exact ⟨A0_, c0_, A1_, c1_, he, ⟨g0_⟩, ⟨g1_⟩, ⟨Kd.R_mono (Kd.R_bound q0_) (fun k hk => ⟨hk.1, hk.2.1, hk.2.2.1⟩), Kd.R_mono (Kd.R_bound q1_) (fun k hk => ⟨hk.1, hk.2.1, hk.2.2.1⟩)⟩, hb⟩

end Go.Proofs.Ytodfnelilhjoeaa.Pr
namespace Go.Proofs.Ytodfnelilhjoeaa.Pr
open Go.RowKit Go.Proofs.YtodfnelilhjoeaaW.PrintWords Go.Proofs.Ytodfnelilhjoeaa.Ni
theorem szIntS_f (l : List Int) (hl : l.length ≤ 9223372036854775807) (a : Int) (h0 : 0 ≤ a) (h1 : a ≤ 1048576) : laws_szIntS.f l a = some (if a - l.length < 0 then -1 else a - l.length) := by
 unfold laws_szIntS.f
 rw [wrap_id (by omega) (by omega)]
 split <;> rfl
theorem szNode_f (s : ByteArray) (l : List Int) (n : Int) (hs : s.size ≤ 9223372036854775807) (hl : l.length ≤ 9223372036854775807) (a : Int) (h0 : 0 ≤ a) (h1 : a ≤ 1048576) :
  ∃ r, laws_szNode.f s l n a = some r ∧ (r < 0 ∨ (0 ≤ r ∧ r ≤ a ∧ s.size ≤ 1048576 ∧ l.length ≤ 1048576)) := by
 unfold laws_szNode.f
 rw [wrap_id (by omega) (by omega)]
 by_cases h : a - (s.size : Int) < 0
 ·rw [if_pos h]; exact ⟨_, rfl, .inl (by omega)⟩
 ·rw [if_neg h, szIntS_f l hl _ (by omega) (by omega), Option.bind_some]
  by_cases h2 : a - (s.size : Int) - l.length < 0
  ·rw [if_pos h2, if_pos (by omega)]; exact ⟨_, rfl, .inl (by omega)⟩
  ·rw [if_neg h2, if_neg h2]; exact ⟨_, rfl, .inr ⟨by omega, by omega, by omega, by omega⟩⟩
theorem toNode_f (s : ByteArray) (l : List Int) (n : Int) (hl : l.length ≤ 35184372088832) (k : Nat) (hk : 2 ^ 64 ≤ k) : laws_toNode.f k s l n = some (s, l, n) := by
 unfold laws_toNode.f
 rw [toIntS_f l hl k hk]; rfl
theorem szNodeS_l (l : List LNode) (hl : l.length ≤ 9223372036854775807) (hb : ∀ n ∈ l, n.f0.size ≤ 9223372036854775807 ∧ n.f1.length ≤ 9223372036854775807) (k : Nat) (hk : 2 ^ 64 ≤ k) :
  ∀ a : Int, 0 ≤ a → a ≤ 1048576 → ∃ r, laws_szNodeS.l0 k l a 0 = some r ∧ (r < 0 ∨ (0 ≤ r ∧ r ≤ a ∧ ∀ n ∈ l, n.f0.size ≤ 1048576 ∧ n.f1.length ≤ 1048576)) := by
 have key := loop_up l.length (fun k i => ∀ a : Int, 0 ≤ a → a ≤ 1048576 → ∃ r, laws_szNodeS.l0 k l a (i : Int) = some r ∧ (r < 0 ∨ (0 ≤ r ∧ r ≤ a ∧ ∀ n ∈ l.drop i, n.f0.size ≤ 1048576 ∧ n.f1.length ≤ 1048576))) 0
  (fun k _ a h0 h1 => ⟨a, by simp [laws_szNodeS.l0], .inr ⟨h0, Int.le_refl _, by simp⟩⟩)
  (fun k i _ hi ih a h0 h1 => by
   simp only [laws_szNodeS.l0]
   rw [if_pos (by omega), if_pos (by omega), rdLN_nat, wrap_nat hi (by omega)]
   have hm := hb _ (getD_mem hi z127)
   obtain ⟨r, hr, h⟩ := szNode_f (l.getD i z127).f0 (l.getD i z127).f1 (l.getD i z127).f2 hm.1 hm.2 a h0 h1
   rw [hr, Option.bind_some]
   rcases h with h | ⟨h2, h3, h4, h5⟩
   ·rw [if_pos h]; exact ⟨_, rfl, .inl (by omega)⟩
   ·rw [if_neg (by omega)]
    obtain ⟨q, hq, h⟩ := ih r h2 (by omega)
    refine ⟨q, hq, ?_⟩
    rcases h with h | ⟨h6, h7, h8⟩
    ·exact .inl h
    ·refine .inr ⟨h6, by omega, ?_⟩
     rw [drop_cons hi z127]
     intro n hn
     rcases List.mem_cons.1 hn with rfl | hn
     ·exact ⟨h4, h5⟩
     ·exact h8 n hn) 0 k (Nat.zero_le _) (by omega)
 intro a h0 h1
 simpa using key a h0 h1
theorem szShow_f (ns : List LNode) (ts : List LTie) (z : Int) (hn : ns.length ≤ 9223372036854775807) (hb : ∀ n ∈ ns, n.f0.size ≤ 9223372036854775807 ∧ n.f1.length ≤ 9223372036854775807) (ht : ts.length ≤ 9223372036854775807) (k : Nat) (hk : 2 ^ 64 ≤ k) (a : Int) (h0 : 0 ≤ a) (h1 : a ≤ 1048576) :
  ∃ r, laws_szShow.f k ns ts z a = some r ∧ (r < 0 ∨ (0 ≤ r ∧ r ≤ a ∧ SmallShow ns ts)) := by
 unfold laws_szShow.f laws_szNodeS.f
 rw [wrap_id (by omega) (by omega)]
 by_cases h : a - (ns.length : Int) < 0
 ·rw [if_pos h, Option.bind_some, if_pos (by omega)]; exact ⟨_, rfl, .inl (by omega)⟩
 ·rw [if_neg h]
  obtain ⟨r, hr, h⟩ := szNodeS_l ns hn hb k hk (a - ns.length) (by omega) (by omega)
  rw [hr, Option.bind_some]
  rcases h with h | ⟨h2, h3, h4⟩
  ·rw [if_pos h]; exact ⟨_, rfl, .inl (by omega)⟩
  ·rw [if_neg (by omega)]
   unfold laws_szTieS.f
   rw [wrap_id (by omega) (by omega)]
   by_cases h5 : r - (ts.length : Int) < 0
   ·rw [if_pos h5, Option.bind_some, if_pos (by omega)]; exact ⟨_, rfl, .inl (by omega)⟩
   ·rw [if_neg h5, Option.bind_some, if_neg h5]; exact ⟨_, rfl, .inr ⟨by omega, by omega, by omega, by omega, h4⟩⟩
theorem toNodeS_f (l : List LNode) (hl : l.length ≤ 1048576) (hb : ∀ n ∈ l, n.f0.size ≤ 1048576 ∧ n.f1.length ≤ 1048576) (k : Nat) (hk : 2 ^ 65 ≤ k) : laws_toNodeS.f k l = some (l.map cvN) := by
 have key := loop_up l.length (fun k i => laws_toNodeS.l0 k l ((l.map cvN).take i ++ List.replicate ((l.map cvN).length - i) z116) (i : Int) = some (l.map cvN)) (2 ^ 64)
  (fun k _ => by simp [laws_toNodeS.l0]; rw [List.take_of_length_le (by simp)])
  (fun k i hk hi ih => by
   simp only [laws_toNodeS.l0]
   have hm := hb _ (getD_mem hi z127)
   rw [if_pos (by omega), if_pos (by omega), rdLN_nat, toNode_f _ _ _ (by omega) k hk, Option.bind_some, if_pos (by simp; omega), wrap_nat hi (by omega), Int.toNat_natCast, set_step (l.map cvN) _ z116 i (by simpa using hi) _ (by rw [getD_map cvN l i z127 z116 zN]; rfl)]
   exact ih) 0 k (Nat.zero_le _) (by omega)
 unfold laws_toNodeS.f
 rw [if_pos (by omega), if_pos (by omega), Int.toNat_natCast]
 simpa using key
theorem toTieS_f (l : List LTie) (hl : l.length ≤ 1048576) (k : Nat) (hk : 2 ^ 64 ≤ k) : laws_toTieS.f k l = some (l.map cvT) := by
 have key := loop_up l.length (fun k i => laws_toTieS.l0 k l ((l.map cvT).take i ++ List.replicate ((l.map cvT).length - i) z90) (i : Int) = some (l.map cvT)) 0
  (fun k _ => by simp [laws_toTieS.l0]; rw [List.take_of_length_le (by simp)])
  (fun k i hk hi ih => by
   simp only [laws_toTieS.l0, laws_toTie.f]
   rw [if_pos (by omega), if_pos (by omega), rdLT_nat, Option.bind_some, if_pos (by simp; omega), wrap_nat hi (by omega), Int.toNat_natCast, set_step (l.map cvT) _ z90 i (by simpa using hi) _ (by rw [getD_map cvT l i z130 z90 zT]; rfl)]
   exact ih) 0 k (Nat.zero_le _) (by omega)
 unfold laws_toTieS.f
 rw [if_pos (by omega), if_pos (by omega), Int.toNat_natCast]
 simpa using key
theorem toShow_f (ns : List LNode) (ts : List LTie) (z : Int) (h : SmallShow ns ts) (k : Nat) (hk : 2 ^ 65 ≤ k) : laws_toShow.f k ns ts z = some (ns.map cvN, ts.map cvT, z) := by
 unfold laws_toShow.f
 rw [toNodeS_f ns h.1 h.2.2 k hk, Option.bind_some, toTieS_f ts h.2.1 k (by omega)]; rfl
theorem idx_at {α : Type} (p : α → Bool) (l : List α) (i : Nat) (x : α) (h : l[i]? = some x) (hx : p x = true) : decide (idxOf p l = (i : Int)) = (l.take i).all (fun y => !p y) := by
 have hi : i < l.length := by
  rcases Nat.lt_or_ge i l.length with h' | h'
  ·exact h'
  ·rw [List.getElem?_eq_none h'] at h; exact absurd h (by simp)
 by_cases ha : (l.take i).all (fun y => !p y) = true
 ·rw [ha, decide_eq_true_eq]
  refine idxOf_hit p l i x h hx fun j y hj hy => ?_
  have := List.all_eq_true.1 ha y (List.mem_of_getElem? (i := j) (by rw [List.getElem?_take_of_lt hj]; exact hy))
  simpa using this
 ·rw [Bool.eq_false_iff.2 ha, decide_eq_false_iff_not]
  intro e
  apply ha
  rw [List.all_eq_true]
  intro y hy
  obtain ⟨j, hj, rfl⟩ := List.mem_iff_getElem.1 hy
  have hj' : j < i := by rw [List.length_take] at hj; omega
  unfold idxOf at e
  cases hf : l.findIdx? p with
  | none => rw [hf] at e; simp only at e; omega
  | some m =>
   rw [hf] at e
   have : m = i := by simp only at e; omega
   subst this
   obtain ⟨_, _, h3⟩ := List.findIdx?_eq_some_iff_getElem.1 hf
   have := h3 j hj'
   rw [List.getElem_take]
   simpa using this
theorem all_pair {α : Type} (a b : α → Bool) (c : Bool) (l : List α) : l.all (fun m => a m && (c || b m)) = (l.all a && (c || l.all b)) := by
 induction l with
 | nil => simp
 | cons x l ih => rw [List.all_cons, List.all_cons, List.all_cons, ih]; cases a x <;> cases b x <;> cases c <;> simp
theorem bne_dec (a b : Int) : (!(a != b)) = decide (a = b) := by rw [Bool.eq_iff_iff]; simp
theorem snodeC_at {ns : List PNode} {i : Nat} (h : i < ns.length) : snodeC ns (rd_T116 ns (i : Int)) i = nodeAt ns i := by
 rw [rdN_nat]
 unfold snodeC nodeAt
 have hs := getD_some h z116
 generalize ns.getD i z116 = y at hs
 rw [bne_dec, bne_dec, bne_dec, namedI, watchI, idx_at _ ns i y hs (decide_eq_true rfl), idx_at _ ns i y hs (decide_eq_true rfl), Bool.and_assoc, ← all_pair]
 rfl
theorem snodes_from {ns : List PNode} : ∀ (d i : Nat), i + d = ns.length → snodesFrom ns i d = nodesFrom ns i d
 | 0, _, _ => rfl
 | d + 1, i, h => by rw [snodesFrom, nodesFrom, snodeC_at (by omega), snodes_from d (i + 1) (by omega)]
theorem watch_same (ns : List PNode) {p : Int} (hp : 0 < p) : pwatchI ns p = watchI ns p := by
 unfold pwatchI watchI
 rw [decide_eq_true hp]
 simp only [Bool.true_and]
theorem watched_same (ns : List PNode) (lb : List Int) {x : Int} (hx : litOk x = true) : watchedB ns lb x = swatchB ns lb x := by
 unfold watchedB watchedC swatchB swatchC hasB
 rw [watch_same ns (by have := prp_pos hx; omega)]
 congr 3
 rw [Bool.eq_iff_iff]; simp
theorem nodeW_same {ns : List PNode} {n : PNode} (h : ∀ x ∈ n.f1, litOk x = true) : nodeW ns n = snodeW ns n := by
 unfold nodeW snodeW
 rw [Bool.eq_iff_iff, Bool.not_eq_true', List.any_eq_false, List.all_eq_true]
 constructor
 ·intro hh x hx
  have := hh x hx
  rw [← watched_same ns _ (h x hx)]; simpa using this
 ·intro hh x hx
  have := hh x hx
  rw [← watched_same ns _ (h x hx)] at this; simpa using this
theorem nodes_same (ns : List PNode) : snodesB ns = (areNodesB ns && ns.all (nodeW ns)) := by
 have e : snodesB ns = (areNodesB ns && ns.all (snodeW ns)) := by
  unfold snodesB areNodesB inB
  rw [snodes_from ns.length 0 (by omega), bne_dec, show rd_T116 ns 0 = ns.getD 0 z116 from rdN_nat ns 0]
  rw [show (decide ((1 : Int) ≤ (ns.length : Int)) && decide ((ns.length : Int) ≤ 7)) = (decide (1 ≤ ns.length) && decide (ns.length ≤ 7)) by rw [Bool.eq_iff_iff]; simp only [Bool.and_eq_true, decide_eq_true_eq]; omega]
  rw [show (!(decide (((ns.getD 0 z116).f1.length : Int) > 0))) = decide ((ns.getD 0 z116).f1.length = 0) by rw [Bool.eq_iff_iff]; simp only [Bool.not_eq_true', decide_eq_true_eq, decide_eq_false_iff_not]; omega]
 rw [e]
 cases h : areNodesB ns with
 | false => rfl
 | true =>
  rw [Bool.true_and, Bool.true_and, Bool.eq_iff_iff, List.all_eq_true, List.all_eq_true]
  constructor
  ·intro hh n hn; rw [nodeW_same (areNodesB_lit h n hn)]; exact hh n hn
  ·intro hh n hn; rw [← nodeW_same (areNodesB_lit h n hn)]; exact hh n hn
def stiesFrom (ns : List PNode) (ts : List PTie) (i : Nat) : Nat → Bool
 | 0 => true
 | d + 1 => tieB ns ts i && stiesFrom ns ts (i + 1) d
theorem in_same (n : Nat) (x : Int) : inB x 0 ((n : Int) - 1) = nodeIn n x := by
 unfold inB nodeIn
 rw [Bool.eq_iff_iff]; simp; omega
theorem tie_same {ns : List PNode} {ts : List PTie} {i : Nat} (h : i < ts.length) : tieB ns ts i = ptieB ns ts i := by
 unfold tieB ptieB
 have hs := getD_some h z90
 rw [rdT_nat]
 generalize ts.getD i z90 = t at hs
 obtain ⟨tf, tt, tl, th, tb⟩ := t
 show tieC tf tt tl th tb ns ts i = ptieC tf tt tl th tb ns ts i
 unfold tieC ptieC spanB
 rw [in_same, in_same]
 cases tb with
 | false =>
  rw [Bool.eq_iff_iff]
  simp only [Bool.not_false, Bool.true_or, Bool.and_true, Bool.and_eq_true, Bool.not_eq_true', beq_eq_false_iff_ne, decide_eq_true_eq, decide_eq_false_iff_not]
  constructor
  ·rintro ⟨⟨⟨⟨⟨a1, a2⟩, a3⟩, a4⟩, a5⟩, a6⟩
   exact ⟨⟨⟨⟨⟨a1, a2⟩, a3⟩, by omega, by omega⟩, by omega, by omega⟩, a6⟩
  ·rintro ⟨⟨⟨⟨⟨a1, a2⟩, a3⟩, a4, a5⟩, a6, a7⟩, a8⟩
   exact ⟨⟨⟨⟨⟨a1, a2⟩, a3⟩, by omega⟩, by omega⟩, a8⟩
 | true =>
  have hf : (freeI ts tt == (i : Int)) = !((ts.take i).any fun u => u.f4 && decide (u.f1 = tt)) := by
   rw [show (freeI ts tt == (i : Int)) = decide (freeI ts tt = (i : Int)) by rw [Bool.eq_iff_iff]; simp, freeI, idx_at _ ts i _ hs (by simp), Bool.eq_iff_iff]
   simp
   exact forall_congr' fun x => forall_congr' fun _ => by cases x.f4 <;> simp
  rw [hf]
  rw [Bool.eq_iff_iff]
  simp only [Bool.not_true, Bool.false_or, Bool.and_eq_true, Bool.not_eq_true', beq_eq_false_iff_ne, decide_eq_true_eq, decide_eq_false_iff_not, beq_iff_eq, bne_eq_false_iff_eq]
  constructor
  ·rintro ⟨⟨⟨⟨⟨⟨a1, a2⟩, a3⟩, a4⟩, a5⟩, a6⟩, ⟨⟨⟨⟨b1, b2⟩, b3⟩, b4⟩, b5⟩⟩
   exact ⟨⟨⟨⟨⟨⟨a1, a2⟩, a3⟩, by omega, by omega⟩, by omega, by omega⟩, a6⟩, ⟨⟨⟨⟨by omega, b2⟩, b3⟩, b4.symm⟩, b5⟩⟩
  ·rintro ⟨⟨⟨⟨⟨⟨a1, a2⟩, a3⟩, a4, a5⟩, a6, a7⟩, a8⟩, ⟨⟨⟨⟨b1, b2⟩, b3⟩, b4⟩, b5⟩⟩
   exact ⟨⟨⟨⟨⟨⟨a1, a2⟩, a3⟩, by omega⟩, by omega⟩, a8⟩, ⟨⟨⟨⟨by omega, b2⟩, b3⟩, b4.symm⟩, b5⟩⟩
theorem ties_from {ns : List PNode} {ts : List PTie} : ∀ (d i : Nat), i + d = ts.length → stiesFrom ns ts i d = tiesFrom ns ts i d
 | 0, _, _ => rfl
 | d + 1, i, h => by rw [stiesFrom, tiesFrom, tie_same (by omega), ties_from d (i + 1) (by omega)]
theorem spec_ShowOk_l (ns : List PNode) (ts : List PTie) (z : Int) (ht : ts.length ≤ 14) : ∀ (d i k : Nat), i + d = ts.length → d < k → spec_ShowOk.l0 k ts.length (i : Int) ns ts z = some (stiesFrom ns ts i d) := by
 intro d
 induction d with
 | zero =>
  intro i k hi hk
  obtain ⟨m, rfl⟩ : ∃ m, k = m + 1 := ⟨k - 1, by omega⟩
  simp only [spec_ShowOk.l0]
  rw [if_neg (by omega)]; rfl
 | succ d ih =>
  intro i k hi hk
  obtain ⟨m, rfl⟩ : ∃ m, k = m + 1 := ⟨k - 1, by omega⟩
  simp only [spec_ShowOk.l0]
  rw [if_pos (by omega), spec_l08Tie.f, if_pos (by omega), Option.bind_some, stiesFrom, wrap_nat (n := ts.length) (by omega) (by omega), ih (i + 1) m (by omega) (by omega)]
  cases tieB ns ts i <;> rfl
theorem spec_ShowOk_f (ns : List PNode) (ts : List PTie) (z : Int) (hf : fitN ns = true) (k : Nat) (hk : 2 ^ 64 ≤ k) : spec_ShowOk.f k ns ts z = some (pshowB ns ts z) := by
 obtain ⟨m, rfl⟩ : ∃ m, k = m + 1 := ⟨k - 1, by omega⟩
 unfold spec_ShowOk.f spec_l08Nodes.f pshowB areTiesB
 rw [if_pos hf, Option.bind_some, nodes_same]
 simp only [spec_ShowOk.j0, l01In_f, Option.bind_some, if_true]
 cases h1 : areNodesB ns with
 | false => rfl
 | true =>
  cases h2 : ns.all (nodeW ns) with
  | false => simp
  | true =>
   rw [Bool.and_true, if_pos rfl]
   by_cases h3 : (ts.length : Int) > 14
   ·rw [if_pos h3, decide_eq_false (show ¬ ts.length ≤ 14 by omega)]; simp
   ·rw [if_neg h3, decide_eq_true (show ts.length ≤ 14 by omega)]
    have hl := spec_ShowOk_l ns ts z (by omega) ts.length 0 m (by omega) (by omega)
    rw [show ((0 : Nat) : Int) = 0 from rfl] at hl
    rw [hl, ties_from _ _ (by omega)]
    by_cases h4 : z < 1
    ·rw [show inB z 1 10 = false by unfold inB; rw [decide_eq_false (show ¬ (1 : Int) ≤ z by omega)]; rfl, decide_eq_true h4]; simp
    ·by_cases h5 : 10 < z
     ·rw [show inB z 1 10 = false by unfold inB; rw [decide_eq_false (show ¬ z ≤ (10 : Int) by omega)]; simp, decide_eq_true h5]; simp
     ·rw [show inB z 1 10 = true by unfold inB; rw [decide_eq_true (show (1 : Int) ≤ z by omega), decide_eq_true (show z ≤ (10 : Int) by omega)]; rfl, decide_eq_false h4, decide_eq_false h5]; simp
theorem fitN_of {ns : List PNode} {ts : List PTie} (h : SmallP ns ts) : fitN ns = true := by
 unfold fitN
 rw [List.all_eq_true]
 intro n hn
 have := h.2.2 n hn
 simp; omega
theorem impl_ShowOk_f {ns : List PNode} {ts : List PTie} {z : Int} (hf : fitN ns = true) : impl_ShowOk.f ns ts z = some (pshowB ns ts z) := by
 unfold impl_ShowOk.f
 rw [if_pos hf]
theorem pshowB_nodes {ns : List PNode} {ts : List PTie} {z : Int} (h : pshowB ns ts z = true) : areNodesB ns = true := by
 unfold pshowB at h
 simp only [Bool.and_eq_true] at h
 exact h.1.1.1.1
theorem pshowB_ties {ns : List PNode} {ts : List PTie} {z : Int} (h : pshowB ns ts z = true) : areTiesB ns ts = true := by
 unfold pshowB at h
 simp only [Bool.and_eq_true] at h
 exact h.1.1.1.2
theorem nodes_watch {ns : List PNode} (h : areNodesB ns = true) : ∀ n ∈ ns, 0 ≤ n.f2 ∧ n.f2 ≤ 3 := by
 intro n hn
 obtain ⟨j, hj, rfl⟩ := List.mem_iff_getElem.1 hn
 have := areNodesB_at h j hj
 unfold nodeAt nodeB at this
 rw [show ns.getD j z116 = ns[j] by rw [List.getD_eq_getElem?_getD, List.getElem?_eq_getElem hj]; rfl] at this
 simp only [Bool.and_eq_true, decide_eq_true_eq] at this
 exact this.1.2
theorem pwatch_out {ns : List PNode} (h : areNodesB ns = true) {p : Int} (hp : ¬ (1 ≤ p ∧ p ≤ 3)) : pwatchI ns p = -1 := by
 unfold pwatchI
 refine idxOf_miss _ _ fun j y _ hy => ?_
 have := nodes_watch h y (List.mem_of_getElem? hy)
 rw [Bool.eq_false_iff]
 intro hh
 simp only [Bool.and_eq_true, decide_eq_true_eq] at hh
 omega
def startT (m : Nat) : List Int := 0 :: List.replicate m (-1)
def startB (ns : List PNode) (ts : List PTie) (z : Int) : Int × List Int × List Int := if pshowB ns ts z = true then (0, startT (ns.length - 1), List.replicate 3 0) else (0, [], [])
theorem startT_len (m : Nat) : (startT m).length = m + 1 := by unfold startT; rw [List.length_cons, List.length_replicate]
theorem startT_at (m i : Nat) (h : i < m + 1) : (startT m).getD i 0 = if (i : Int) = 0 then 0 else -1 := by
 unfold startT
 cases i with
 | zero => rfl
 | succ j =>
  rw [if_neg (by omega), List.getD_cons_succ, List.getD_eq_getElem?_getD, List.getElem?_replicate, if_pos (by omega)]; rfl
theorem spec_SS_l0 (m : Nat) (v : List Int) (hm : m ≤ 100) (k : Nat) (hk : 2 ^ 64 ≤ k) : spec_StartState.l0 k ((m + 1 : Nat) : Int) 0 0 [] v = some (0, startT m, v) := by
 have key := loop_up (m + 1) (fun k i => ∀ acc, acc.length = i → spec_StartState.l0 k ((m + 1 : Nat) : Int) (i : Int) 0 acc v = some (0, acc ++ (startT m).drop i, v)) 0
  (fun k _ acc _ => by
   simp only [spec_StartState.l0]
   rw [if_neg (by omega), show (startT m).drop (m + 1) = [] from List.drop_eq_nil_of_le (Nat.le_of_eq (startT_len m)), List.append_nil])
  (fun k i _ hi ih acc ha => by
   simp only [spec_StartState.l0]
   rw [if_pos (by omega), wrap_nat hi (by omega), drop_cons (show i < (startT m).length by rw [startT_len]; exact hi) 0, startT_at m i hi]
   by_cases h : (i : Int) = 0
   ·rw [if_pos h, if_pos (by omega), if_pos h, ih _ (by rw [List.length_append, ha]; rfl), List.append_assoc, List.singleton_append]
   ·rw [if_neg h, if_pos (by omega), if_neg h, ih _ (by rw [List.length_append, ha]; rfl), List.append_assoc, List.singleton_append]) 0 k (Nat.zero_le _) (by omega)
 simpa using key [] rfl
theorem areNodesB_few {ns : List PNode} (h : areNodesB ns = true) : 1 ≤ ns.length ∧ ns.length ≤ 7 := by
 unfold areNodesB at h
 simp only [Bool.and_eq_true, decide_eq_true_eq] at h
 exact ⟨h.1.1.1.1, h.1.1.1.2⟩
theorem startB_len (ns : List PNode) (ts : List PTie) (z : Int) : (startB ns ts z).2.1.length ≤ 7 ∧ (startB ns ts z).2.2.length ≤ 3 := by
 unfold startB
 split
 ·rename_i h
  have := areNodesB_few (pshowB_nodes h)
  refine ⟨?_, by simp⟩
  show (startT (ns.length - 1)).length ≤ 7
  rw [startT_len]; omega
 ·simp
theorem spec_StartState_f {ns : List PNode} {ts : List PTie} {z : Int} (hc : SmallP ns ts) (k : Nat) (hk : 2 ^ 66 ≤ k) : spec_StartState.f k ns ts z = some (startB ns ts z) := by
 unfold spec_StartState.f startB
 rw [spec_ShowOk_f ns ts z (fitN_of hc) k (by omega), Option.bind_some]
 by_cases h : pshowB ns ts z = true
 ·have hf := areNodesB_few (pshowB_nodes h)
  rw [if_pos h, if_pos h, if_pos (by omega), show (ns.length : Int) = ((ns.length - 1 + 1 : Nat) : Int) by omega, spec_SS_l0 (ns.length - 1) _ (by omega) k (by omega)]
 ·rw [if_neg h, if_neg h]
theorem impl_StartState_f {ns : List PNode} {ts : List PTie} {z : Int} (hc : SmallP ns ts) : impl_StartState.f ns ts z = some (startB ns ts z) := by
 unfold impl_StartState.f startB
 rw [impl_ShowOk_f (fitN_of hc), Option.bind_some]
 by_cases h : pshowB ns ts z = true
 ·have hf := areNodesB_few (pshowB_nodes h)
  obtain ⟨m, hm⟩ : ∃ m, ns.length = m + 1 := ⟨ns.length - 1, by omega⟩
  rw [if_pos h, if_pos h]
  unfold slices_Repeat_int_int.f
  rw [if_pos ⟨rfl, by omega, by omega⟩, Option.bind_some, if_pos (by omega), Int.toNat_natCast, List.length_replicate, if_pos (by omega), hm]
  rfl
 ·rw [if_neg h, if_neg h]
end Go.Proofs.Ytodfnelilhjoeaa.Pr
