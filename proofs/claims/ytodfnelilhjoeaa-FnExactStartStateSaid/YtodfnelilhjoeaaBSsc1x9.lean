/- The texts of one claim, put together by a program of this session. -/
import Derived.Deep.LoopGhost
import Derived.Shelf.Abstract
import Derived.Test.YtodfnelilhjoeaaBSsc1x1
import Derived.Test.YtodfnelilhjoeaaBSsc1x2
import Derived.Test.YtodfnelilhjoeaaBSsc1x3
namespace Go.Proofs.Ytodfnelilhjoeaa.Pr
open Go.RowKit Go.Proofs.YtodfnelilhjoeaaW.PrintWords Go.Proofs.YtodfnelilhjoeaaW.PrintLast Go.Proofs.YtodfnelilhjoeaaW.PrintMore
attribute [local go_sem] max2_int min2_int max_two min_two max_three min_three max_four min_four
set_option linter.unusedVariables false
set_option linter.unusedSimpArgs false
open Go.Proofs.Ytodfnelilhjoeaa.Ni
set_option maxHeartbeats 4000000 in
theorem impl_Node.any (p : S116 → Bool) (g : Nat) (lb : Array Value) (eg : ∀ args w, (callFunc g args).run Try.prog w = .ok (.enter g args) w) (A0 : Option Addr) (c0 : Nat) (l0 : List S116) (w : World) (hr0 : Kd.C k116 w A0 l0.length l0)
  (hp : ∀ (W : World) (x : S116) (A1_ : Option Addr) (c1_ : Nat), x ∈ l0 → Below w.heap.size w W → x.f1.length ≤ c1_ → Kd.C (Kd.int .i64) W A1_ x.f1.length x.f1 → Calls Try.prog g (#[.agg #[.string x.f0, .slice A1_ x.f1.length c1_, .int .i64 x.f2]] ++ lb) W fun e w' => e = .returned (.bool (p x)) ∧ Below W.heap.size W w') :
  Calls Try.prog 164 #[.slice A0 l0.length c0, .func (.func g) #[] lb] w fun e w' => e = .returned (.int .i64 (idxOf p l0)) ∧ Below w.heap.size w w' := by
 have HR0 := Aside0.mk hr0; have HP := Aside0.mk hp; clear hr0 hp
 have HL : l0.length ≤ 9223372036854775807 := HR0.out.2.1
 go_enter Try.func164, Try.ntmps164
 go_wp2
 go_loopg [5, 8] l0.length (fun gg _ s8 wr => ∃ kk : Nat, Aside0 (kk ≤ l0.length) ∧ Aside0 (l0.length - kk ≤ gg) ∧ s8 = .int .i64 kk ∧ Aside0 (Below w.heap.size w wr) ∧ Aside0 (∀ j y, j < kk → l0[j]? = some y → p y = false))
 case atStart => exact ⟨0, ⟨Nat.zero_le _⟩, ⟨by omega⟩, rfl, ⟨Below.refl _ _⟩, ⟨fun j y hj => absurd hj (Nat.not_lt_zero _)⟩⟩
 case round =>
  obtain ⟨kk, HK, HG, rfl, HB, HN⟩ := hrel
  by_cases hlt : kk < l0.length
  ·have hltz : (kk : Int) < (l0.length : Int) := by omega
   obtain ⟨ad, A1_, c1_, e1, hx0, hx1, hx2, l1_, g1_⟩ := at_T116 HR0.out (kk : Int) (by omega) hltz
   cases e1
   replace hx0 := (HB.out.cell (World.block_lt_of_cell? w _ hx0)).trans hx0
   rw [Int.toNat_natCast] at hx0
   replace hx1 := (HB.out.cell (World.block_lt_of_cell? w _ hx1)).trans hx1
   rw [Int.toNat_natCast] at hx1
   replace hx2 := (HB.out.cell (World.block_lt_of_cell? w _ hx2)).trans hx2
   rw [Int.toNat_natCast] at hx2
   have hxe : l0[kk]? = some (rd_T116 l0 (kk : Int)) := by
    unfold rd_T116
    rw [Int.toNat_natCast, List.getD_eq_getElem?_getD, List.getElem?_eq_getElem hlt]; rfl

   generalize rd_T116 l0 (kk : Int) = y at hx0 hx1 hx2 l1_ g1_ hxe
   have HX := Aside0.mk hxe; clear hxe
   have hcall := HP.out wr y A1_ c1_ (List.mem_of_getElem? HX.out) HB.out l1_ (Kd.C_below g1_ HB.out)
   clear g1_ l1_
   cases hq : p y with
   | true =>
    have HQ := Aside0.mk hq
    rw [hq] at hcall
    clear hq
    go_wp2_with (go_at_fn g; refine hcall.mono ?_; rintro e w' ⟨rfl, hb⟩)
    go_ret
    exact ⟨by rw [idxOf_hit p l0 kk y HX.out HQ.out HN.out]; rfl, HB.out.trans (hb.mono HB.out.size)⟩
   | false =>
    have HQ := Aside0.mk hq
    rw [hq] at hcall
    clear hq
    go_wp2_with (go_at_fn g; refine hcall.mono ?_; rintro e w' ⟨rfl, hb⟩)
    go_roundg (l0.length - (kk + 1))
    case measure => have := HG.out; omega
    case rel =>
     refine ⟨kk + 1, ⟨by omega⟩, ⟨by omega⟩, by go_num, ⟨HB.out.trans (hb.mono HB.out.size)⟩, ⟨fun j y' hj hy => ?_⟩⟩
     by_cases e : j = kk
     ·subst e
      rw [HX.out] at hy
      cases hy
      exact HQ.out
     ·exact HN.out j y' (by omega) hy
  ·have hltz : ¬ (kk : Int) < (l0.length : Int) := by omega
   have : kk = l0.length := by have := HK.out; omega
   subst this
   go_wp2
   go_ret
   exact ⟨by rw [idxOf_miss p l0 HN.out]; rfl, HB.out⟩

def pwatchI (ns : List S116) (p : Int) : Int := idxOf (fun n => decide (0 < p) && decide (n.f2 = p)) ns
def impl_watcher.f (l0_0 : List (S116)) (l0_1 : List (S90)) (a0_2 : Int) (a1 : Int) : Option Int := some (pwatchI l0_0 a1)
theorem impl_watcher_1.clo (B : Nat) (p : Int) (W : World) (hB : W.cell? ⟨B, 0, none⟩ = some (.int .i64 p)) (x : S116) (A1_ : Option Addr) (c1_ : Nat) :
  Calls Try.prog 165 #[.agg #[.string x.f0, .slice A1_ x.f1.length c1_, .int .i64 x.f2], .pointer (some ⟨B, 0, none⟩)] W fun e w' => e = .returned (.bool (decide (0 < p) && decide (x.f2 = p))) ∧ Below W.heap.size W w' := by
 have hlt : B < W.heap.size := World.block_lt_of_cell? W _ hB
 have HE := Aside0.mk (show (x.f2 == p) = decide (x.f2 = p) by rw [Bool.eq_iff_iff]; simp)
 cases hp : decide (0 < p) with
 | false =>
  go_enter Try.func165, Try.ntmps165
  go_wp2
  go_ret
  exact ⟨rfl, (Below.refl _ _).alloc (Nat.le_refl _) _⟩
 | true =>
  go_enter Try.func165, Try.ntmps165
  go_wp2
  go_ret
  exact ⟨by rw [← HE.out]; rfl, (Below.refl _ _).alloc (Nat.le_refl _) _⟩
set_option maxHeartbeats 4000000 in
theorem impl_watcher.calls (A0_0 : Option Addr) (c0_0 : Nat) (l0_0 : List (S116)) (A0_1 : Option Addr) (c0_1 : Nat) (l0_1 : List (S90)) (a0_2 : Int) (a1 : Int) (r : Int) (w : World) (hr0_0 : Kd.C k116 w A0_0 l0_0.length l0_0) (hc0_0 : l0_0.length ≤ c0_0) (hr0_1 : Kd.C k90 w A0_1 l0_1.length l0_1) (hc0_1 : l0_1.length ≤ c0_1) (h : impl_watcher.f l0_0 l0_1 a0_2 a1 = some r) :
  Calls Try.prog 126 #[.agg #[.slice A0_0 l0_0.length c0_0, .slice A0_1 l0_1.length c0_1, .int .i64 a0_2], .int .i64 a1] w fun e w' => e = .returned (.int .i64 r) ∧ Below w.heap.size w w' := by
 obtain rfl := Option.some.inj h
 have HC' := Aside0.mk fun (W : World) (B : Nat) (hb : Below w.heap.size w W) (hcell : W.cell? ⟨B, 0, none⟩ = some (.int .i64 a1)) => impl_Node.any (fun n => decide (0 < a1) && decide (n.f2 = a1)) 165 #[.pointer (some ⟨B, 0, none⟩)] (enters_of Try.func165 (by kernel_rfl) rfl) A0_0 c0_0 l0_0 W (Kd.C_below hr0_0 hb)
    (fun W' x A1_ c1_ _ hb' _ _ => impl_watcher_1.clo B a1 W' ((hb'.cell (World.block_lt_of_cell? W _ hcell)).trans hcell) x A1_ c1_)
 clear hr0_0 hr0_1 h
 have HB2 := Aside0.mk (((Below.refl w.heap.size w).alloc (Nat.le_refl _) (.cells #[.slice A0_0 l0_0.length c0_0, .slice A0_1 l0_1.length c0_1, .int .i64 a0_2] 35)).alloc (by simp) (.cells #[.int .i64 a1] 3))
 have hu := Try.underlying35
 go_enter Try.func126, Try.ntmps126
 go_wp2_with fail
 refine (HC'.out _ _ HB2.out (by go_simp)).mono ?_
 rintro e w' ⟨rfl, hb⟩
 go_wp2
 go_ret
 exact ⟨rfl, HB2.out.trans (hb.mono HB2.out.size)⟩

end Go.Proofs.Ytodfnelilhjoeaa.Pr
namespace Go.Proofs.Ytodfnelilhjoeaa.Pr
open Go.RowKit Go.Proofs.YtodfnelilhjoeaaW.PrintWords Go.Proofs.YtodfnelilhjoeaaW.PrintLast Go.Proofs.YtodfnelilhjoeaaW.PrintMore
attribute [local go_sem] max2_int min2_int max_two min_two max_three min_three max_four min_four
set_option linter.unusedVariables false
set_option linter.unusedSimpArgs false
def impl_isWatched.f (k : Nat) (l0_0 : List (S116)) (l0_1 : List (S90)) (a0_2 : Int) (l1 : List Int) (a2 : Int) : Option (Bool) := (impl_propOf.f a2).bind fun t125002 => ((impl_watcher.f l0_0 l0_1 a0_2 t125002).bind fun t125003 => (if t125003 < 0 then (some false) else (if 0 ≤ t125003 then (if t125003 < (l0_0.length : Int) then ((slices_Contains_int_int.f ((rd_T116 l0_0 t125003).f1) a2).bind fun t125005 => (if t125005 = true then (some false) else ((slices_Contains_int_int.f ((rd_T116 l0_0 t125003).f1) (wrap64 (-a2))).bind fun t125006 => (if t125006 = true then (some false) else ((impl_ImpliesLabel.f k l1 ((rd_T116 l0_0 t125003).f1)).bind fun t125007 => (some t125007)))))) else (none)) else (none))))
set_option maxHeartbeats 8000000 in
set_option maxRecDepth 100000 in
theorem impl_isWatched.calls (k : Nat) (A0_0 : Option Addr) (c0_0 : Nat) (l0_0 : List (S116)) (A0_1 : Option Addr) (c0_1 : Nat) (l0_1 : List (S90)) (a0_2 : Int) (A1 : Option Addr) (c1 : Nat) (l1 : List Int) (a2 : Int) (r : Bool) (w : World) (hr0_0 : Kd.C k116 w A0_0 l0_0.length l0_0) (hc0_0 : l0_0.length ≤ c0_0) (hr0_1 : Kd.C k90 w A0_1 l0_1.length l0_1) (hc0_1 : l0_1.length ≤ c0_1) (hr1 : Kd.C (Kd.int .i64) w A1 l1.length l1) (hc1 : l1.length ≤ c1) (h : impl_isWatched.f k l0_0 l0_1 a0_2 l1 a2 = some r) :
  Calls Try.prog 125 #[.agg #[.slice A0_0 l0_0.length c0_0, .slice A0_1 l0_1.length c0_1, .int .i64 a0_2], .slice A1 l1.length c1, .int .i64 a2] w fun e w' => e = .returned (.bool r) ∧ Below w.heap.size w w' := by
 have hu35 := Try.underlying35
 have HR0_0 := Aside0.mk hr0_0; have HC0_0 := Aside0.mk hc0_0; clear hr0_0 hc0_0; have HR0_1 := Aside0.mk hr0_1; have HC0_1 := Aside0.mk hc0_1; clear hr0_1 hc0_1; have HR1 := Aside0.mk hr1; have HC1 := Aside0.mk hc1; clear hr1 hc1
 have HB := Aside0.mk (Below.refl w.heap.size w)
 have H : ((impl_propOf.f a2).bind fun t125002 => ((impl_watcher.f l0_0 l0_1 a0_2 t125002).bind fun t125003 => (if t125003 < 0 then (some false) else (if 0 ≤ t125003 then (if t125003 < (l0_0.length : Int) then ((slices_Contains_int_int.f ((rd_T116 l0_0 t125003).f1) a2).bind fun t125005 => (if t125005 = true then (some false) else ((slices_Contains_int_int.f ((rd_T116 l0_0 t125003).f1) (wrap64 (-a2))).bind fun t125006 => (if t125006 = true then (some false) else ((impl_ImpliesLabel.f k l1 ((rd_T116 l0_0 t125003).f1)).bind fun t125007 => (some t125007)))))) else (none)) else (none))))) = some r := h
 clear h
 replace H := Option.bind_eq_some_iff.mp H
 obtain ⟨t125002, A40, H⟩ := H; have A4 := Aside0.mk A40; clear A40
 replace H := Option.bind_eq_some_iff.mp H
 obtain ⟨t125003, A50, H⟩ := H; have A5 := Aside0.mk A50; clear A50
 by_cases c6 : t125003 < 0
 ·rw [if_pos c6] at H
  have c6b0 : decide (t125003 < 0) = true := decide_eq_true c6
  clear c6
  obtain rfl := Option.some.inj H
  go_enter Try.func125, Try.ntmps125
  try go_wp2_with (first | ((with_reducible refine gate_dst (N := 3) rfl ?_); refine box_event ?hg (N := 3) ?hd (cs := #[.slice A0_0 l0_0.length c0_0, .slice A0_1 l0_1.length c0_1, .int .i64 a0_2]) (t := 35) ?hr ?_; (case hd => rfl); (case hg => rfl); (case hr => first | (go_simp; done) | (go_simp; rfl)); intro gb125001 hg w7 hbox hb; have n0_ := Aside0.mk (below_step (by exact HB.out) hb); have n1_ := Aside0.mk (hbox); have n2_ := Aside0.mk ((by rw [hg]; exact (below_size (by exact HB.out)) : w.heap.size ≤ gb125001)); have n3_ := n2_; clear HB; have HB := n0_; have BK125001 := n1_; have GW125001 := n2_; have GE125001 := n3_; clear n0_ n1_ n2_ n3_; clear hb hbox hg))
  have n0_ := Aside0.mk (blk_drew BK125001.out)
  have n1_ := Aside0.mk (below_drew1 HB.out)
  clear BK125001 HB; have BK125001 := n0_; have HB := n1_; clear n0_ n1_
  refine start_ (n := 5) (S := fun w' => w'.cell? ⟨gb125001, 0, none⟩ = some (.slice A0_0 l0_0.length c0_0) ∧ w'.cell? ⟨gb125001, 1, none⟩ = some (.slice A0_1 l0_1.length c0_1) ∧ w'.cell? ⟨gb125001, 2, none⟩ = some (.int .i64 a0_2)) (ds := []) #[false, false, false, false, false] (by kernel_rfl) rfl rfl ⟨(blk_cell BK125001.out 0).trans rfl, (blk_cell BK125001.out 1).trans rfl, (blk_cell BK125001.out 2).trans rfl⟩ (fun hHeld => ?_)
  generalize w7.drew = w8 at BK125001 HB hHeld ⊢
  refine pure_ (i := 1) (N := some 10) (v := ?_) (a' := ?_) #[false, true, false, false, false] rfl rfl (by kernel_rfl) (fun _ _ _ h => h) (Or.inl ⟨by rfl, ?_⟩) ?_ ?_
  rotate_left
  ·intro w'
   go_simp
   with_reducible rfl
  rotate_left
  ·simp only [Act.put, List.setIfInBounds_toArray, List.set_cons_zero, List.set_cons_succ, i64_w, i32_w]
   rfl
  refine take_ (i := 0) (N := some 9) (v := ?_) (a' := ?_) #[true, true, false, false, false] rfl rfl (by kernel_rfl) (fun _ _ _ h => h) (Or.inl ⟨by rfl, ?_⟩) hHeld ?_ ?_
  rotate_left
  ·rintro w' ⟨s0, s1, s2⟩
   go_simp
   with_reducible rfl
  rotate_left
  ·simp only [Act.put, List.setIfInBounds_toArray, List.set_cons_zero, List.set_cons_succ, i64_w, i32_w]
   rfl
  refine one_ (i := 2) (N := some 11) #[true, true, true, false, false] rfl rfl (by kernel_rfl) (by decide) (fun K hK => ?_)
  refine goes_ Try.func162 (by kernel_rfl) rfl #[.int .i64 a2] (by rfl) rfl rfl (by (try simp only [List.map_toArray, List.map_cons, List.map_nil]); first | done | rfl | (simp only [List.length_drop, List.length_take]; rfl)) ?_
  with_reducible refine (impl_propOf.calls a2 t125002 _ A4.out).mono ?_
  rintro e w9 ⟨rfl, hb⟩
  refine ⟨_, rfl, ?_⟩
  have n0_ := Aside0.mk (blk_below BK125001.out hb)
  have n1_ := Aside0.mk (below_step (by exact HB.out) hb)
  clear BK125001 HB; have BK125001 := n0_; have HB := n1_; clear n0_ n1_
  (try clear hb)
  (try clear hb2)
  (try clear hk)
  (try clear hi)
  refine hK.out _ _ ⟨(blk_cell BK125001.out 0).trans rfl, (blk_cell BK125001.out 1).trans rfl, (blk_cell BK125001.out 2).trans rfl⟩ (fun hHeld => ?_)
  clear hK K
  refine norm_ (a' := ?_) ?_ ?_
  rotate_left
  ·show Act.put _ (some 11) _ = _
   simp only [Act.put, List.setIfInBounds_toArray, List.set_cons_zero, List.set_cons_succ, i64_w, i32_w]
   rfl
  refine one_ (i := 3) (N := some 12) #[true, true, true, true, false] rfl rfl (by kernel_rfl) (by decide) (fun K hK => ?_)
  refine goes_ Try.func126 (by kernel_rfl) rfl #[.agg #[.slice A0_0 l0_0.length c0_0, .slice A0_1 l0_1.length c0_1, .int .i64 a0_2], .int .i64 t125002] (by rfl) rfl rfl (by (try simp only [List.map_toArray, List.map_cons, List.map_nil]); first | done | rfl | (simp only [List.length_drop, List.length_take]; rfl)) ?_
  with_reducible refine (impl_watcher.calls _ _ l0_0 _ _ l0_1 a0_2 t125002 t125003 _ ?side1 ?side2 ?side3 ?side4 A5.out).mono ?_
  (case side1 => exact (Kd.C_below HR0_0.out HB.out))
  (case side2 => exact HC0_0.out)
  (case side3 => exact (Kd.C_below HR0_1.out HB.out))
  (case side4 => exact HC0_1.out)
  rintro e w10 ⟨rfl, hb⟩
  refine ⟨_, rfl, ?_⟩
  have n0_ := Aside0.mk (blk_below BK125001.out hb)
  have n1_ := Aside0.mk (below_step (by exact HB.out) hb)
  clear BK125001 HB; have BK125001 := n0_; have HB := n1_; clear n0_ n1_
  (try clear hb)
  (try clear hb2)
  (try clear hk)
  (try clear hi)
  refine hK.out _ _ ⟨(blk_cell BK125001.out 0).trans rfl, (blk_cell BK125001.out 1).trans rfl, (blk_cell BK125001.out 2).trans rfl⟩ (fun hHeld => ?_)
  clear hK K
  refine norm_ (a' := ?_) ?_ ?_
  rotate_left
  ·show Act.put _ (some 12) _ = _
   simp only [Act.put, List.setIfInBounds_toArray, List.set_cons_zero, List.set_cons_succ, i64_w, i32_w]
   rfl
  refine pure_ (i := 4) (N := some 7) (v := ?_) (a' := ?_) #[true, true, true, true, true] rfl rfl (by kernel_rfl) (fun _ _ _ h => h) (Or.inl ⟨by rfl, ?_⟩) ?_ ?_
  rotate_left
  ·intro w'
   go_simp
   with_reducible rfl
  rotate_left
  ·simp only [Act.put, List.setIfInBounds_toArray, List.set_cons_zero, List.set_cons_succ, i64_w, i32_w]
   rfl
  refine done_ (by kernel_rfl) ?_
  try go_wp2
  go_ret
  exact ⟨by first | rfl | (simp [errW_none, errW_some] <;> rfl) | (simp [*, errW_none, errW_some] <;> rfl), by repeat (first | (with_reducible first | exact HB.out | apply below_alloc | apply pw_below_drewN | apply below_drew1 | refine below_set ?_ GE125001.out) | exact HB.out)⟩
 ·rw [if_neg c6] at H
  have c6b0 : decide (t125003 < 0) = false := decide_eq_false c6
  clear c6
  by_cases c11 : 0 ≤ t125003
  ·rw [if_pos c11] at H
   have c11b0 : decide (0 ≤ t125003) = true := decide_eq_true c11
   clear c11
   by_cases c12 : t125003 < (l0_0.length : Int)
   ·rw [if_pos c12] at H
    have c12b0 : decide (t125003 < (l0_0.length : Int)) = true := decide_eq_true c12
    clear c12
    replace H := Option.bind_eq_some_iff.mp H
    obtain ⟨t125005, A130, H⟩ := H; have A13 := Aside0.mk A130; clear A130
    by_cases c14 : t125005 = true
    ·subst c14
     rw [if_pos rfl] at H
     obtain rfl := Option.some.inj H
     go_enter Try.func125, Try.ntmps125
     try go_wp2_with (first | ((with_reducible refine gate_dst (N := 3) rfl ?_); refine box_event ?hg (N := 3) ?hd (cs := #[.slice A0_0 l0_0.length c0_0, .slice A0_1 l0_1.length c0_1, .int .i64 a0_2]) (t := 35) ?hr ?_; (case hd => rfl); (case hg => rfl); (case hr => first | (go_simp; done) | (go_simp; rfl)); intro gb125001 hg w15 hbox hb; have n0_ := Aside0.mk (below_step (by exact HB.out) hb); have n1_ := Aside0.mk (hbox); have n2_ := Aside0.mk ((by rw [hg]; exact (below_size (by exact HB.out)) : w.heap.size ≤ gb125001)); have n3_ := n2_; clear HB; have HB := n0_; have BK125001 := n1_; have GW125001 := n2_; have GE125001 := n3_; clear n0_ n1_ n2_ n3_; clear hb hbox hg))
     have n0_ := Aside0.mk (blk_drew BK125001.out)
     have n1_ := Aside0.mk (below_drew1 HB.out)
     clear BK125001 HB; have BK125001 := n0_; have HB := n1_; clear n0_ n1_
     refine start_ (n := 5) (S := fun w' => w'.cell? ⟨gb125001, 0, none⟩ = some (.slice A0_0 l0_0.length c0_0) ∧ w'.cell? ⟨gb125001, 1, none⟩ = some (.slice A0_1 l0_1.length c0_1) ∧ w'.cell? ⟨gb125001, 2, none⟩ = some (.int .i64 a0_2)) (ds := []) #[false, false, false, false, false] (by kernel_rfl) rfl rfl ⟨(blk_cell BK125001.out 0).trans rfl, (blk_cell BK125001.out 1).trans rfl, (blk_cell BK125001.out 2).trans rfl⟩ (fun hHeld => ?_)
     generalize w15.drew = w16 at BK125001 HB hHeld ⊢
     refine pure_ (i := 1) (N := some 10) (v := ?_) (a' := ?_) #[false, true, false, false, false] rfl rfl (by kernel_rfl) (fun _ _ _ h => h) (Or.inl ⟨by rfl, ?_⟩) ?_ ?_
     rotate_left
     ·intro w'
      go_simp
      with_reducible rfl
     rotate_left
     ·simp only [Act.put, List.setIfInBounds_toArray, List.set_cons_zero, List.set_cons_succ, i64_w, i32_w]
      rfl
     refine take_ (i := 0) (N := some 9) (v := ?_) (a' := ?_) #[true, true, false, false, false] rfl rfl (by kernel_rfl) (fun _ _ _ h => h) (Or.inl ⟨by rfl, ?_⟩) hHeld ?_ ?_
     rotate_left
     ·rintro w' ⟨s0, s1, s2⟩
      go_simp
      with_reducible rfl
     rotate_left
     ·simp only [Act.put, List.setIfInBounds_toArray, List.set_cons_zero, List.set_cons_succ, i64_w, i32_w]
      rfl
     refine one_ (i := 2) (N := some 11) #[true, true, true, false, false] rfl rfl (by kernel_rfl) (by decide) (fun K hK => ?_)
     refine goes_ Try.func162 (by kernel_rfl) rfl #[.int .i64 a2] (by rfl) rfl rfl (by (try simp only [List.map_toArray, List.map_cons, List.map_nil]); first | done | rfl | (simp only [List.length_drop, List.length_take]; rfl)) ?_
     with_reducible refine (impl_propOf.calls a2 t125002 _ A4.out).mono ?_
     rintro e w17 ⟨rfl, hb⟩
     refine ⟨_, rfl, ?_⟩
     have n0_ := Aside0.mk (blk_below BK125001.out hb)
     have n1_ := Aside0.mk (below_step (by exact HB.out) hb)
     clear BK125001 HB; have BK125001 := n0_; have HB := n1_; clear n0_ n1_
     (try clear hb)
     (try clear hb2)
     (try clear hk)
     (try clear hi)
     refine hK.out _ _ ⟨(blk_cell BK125001.out 0).trans rfl, (blk_cell BK125001.out 1).trans rfl, (blk_cell BK125001.out 2).trans rfl⟩ (fun hHeld => ?_)
     clear hK K
     refine norm_ (a' := ?_) ?_ ?_
     rotate_left
     ·show Act.put _ (some 11) _ = _
      simp only [Act.put, List.setIfInBounds_toArray, List.set_cons_zero, List.set_cons_succ, i64_w, i32_w]
      rfl
     refine one_ (i := 3) (N := some 12) #[true, true, true, true, false] rfl rfl (by kernel_rfl) (by decide) (fun K hK => ?_)
     refine goes_ Try.func126 (by kernel_rfl) rfl #[.agg #[.slice A0_0 l0_0.length c0_0, .slice A0_1 l0_1.length c0_1, .int .i64 a0_2], .int .i64 t125002] (by rfl) rfl rfl (by (try simp only [List.map_toArray, List.map_cons, List.map_nil]); first | done | rfl | (simp only [List.length_drop, List.length_take]; rfl)) ?_
     with_reducible refine (impl_watcher.calls _ _ l0_0 _ _ l0_1 a0_2 t125002 t125003 _ ?side1 ?side2 ?side3 ?side4 A5.out).mono ?_
     (case side1 => exact (Kd.C_below HR0_0.out HB.out))
     (case side2 => exact HC0_0.out)
     (case side3 => exact (Kd.C_below HR0_1.out HB.out))
     (case side4 => exact HC0_1.out)
     rintro e w18 ⟨rfl, hb⟩
     refine ⟨_, rfl, ?_⟩
     have n0_ := Aside0.mk (blk_below BK125001.out hb)
     have n1_ := Aside0.mk (below_step (by exact HB.out) hb)
     clear BK125001 HB; have BK125001 := n0_; have HB := n1_; clear n0_ n1_
     (try clear hb)
     (try clear hb2)
     (try clear hk)
     (try clear hi)
     refine hK.out _ _ ⟨(blk_cell BK125001.out 0).trans rfl, (blk_cell BK125001.out 1).trans rfl, (blk_cell BK125001.out 2).trans rfl⟩ (fun hHeld => ?_)
     clear hK K
     refine norm_ (a' := ?_) ?_ ?_
     rotate_left
     ·show Act.put _ (some 12) _ = _
      simp only [Act.put, List.setIfInBounds_toArray, List.set_cons_zero, List.set_cons_succ, i64_w, i32_w]
      rfl
     refine pure_ (i := 4) (N := some 7) (v := ?_) (a' := ?_) #[true, true, true, true, true] rfl rfl (by kernel_rfl) (fun _ _ _ h => h) (Or.inl ⟨by rfl, ?_⟩) ?_ ?_
     rotate_left
     ·intro w'
      go_simp
      with_reducible rfl
     rotate_left
     ·simp only [Act.put, List.setIfInBounds_toArray, List.set_cons_zero, List.set_cons_succ, i64_w, i32_w]
      rfl
     refine done_ (by kernel_rfl) ?_
     have hcz19_0 : w18.cell? ⟨gb125001, 0, none⟩ = some (.slice A0_0 l0_0.length c0_0) := (blk_cell BK125001.out 0).trans rfl
     have hcz19_1 : w18.cell? ⟨gb125001, 1, none⟩ = some (.slice A0_1 l0_1.length c0_1) := (blk_cell BK125001.out 1).trans rfl
     have hcz19_2 : w18.cell? ⟨gb125001, 2, none⟩ = some (.int .i64 a0_2) := (blk_cell BK125001.out 2).trans rfl
     have p125004 : 0 ≤ (t125003 : Int) := of_decide_eq_true (by with_reducible assumption)
     have q125004 : t125003 < (l0_0.length : Int) := of_decide_eq_true (by with_reducible assumption)
     obtain ⟨ad125004, A125004_1, c125004_1, e125004, hx125004_0, hx125004_1, hx125004_2, hl125004_1, hi125004_1⟩ := at_T116 HR0_0.out t125003 p125004 q125004
     cases e125004
     replace hx125004_0 := (HB.out.cell (World.block_lt_of_cell? w _ hx125004_0)).trans hx125004_0
     replace hx125004_1 := (HB.out.cell (World.block_lt_of_cell? w _ hx125004_1)).trans hx125004_1
     replace hx125004_2 := (HB.out.cell (World.block_lt_of_cell? w _ hx125004_2)).trans hx125004_2
     have HR125004_1 := Aside0.mk hi125004_1; have HC125004_1 := Aside0.mk hl125004_1; clear hi125004_1 hl125004_1
     replace p125004 := eq_true p125004
     replace q125004 := eq_true q125004
     try go_wp2_with (first | ((with_reducible refine gate_callee (f := 134) rfl ?_); refine goesL_ (some 23) rfl rfl Try.func134 (by kernel_rfl) rfl #[.slice A125004_1 ((rd_T116 l0_0 t125003).f1).length c125004_1, .int .i64 a2] rfl (by (try simp only [List.map_toArray, List.map_cons, List.map_nil]); first | done | rfl | (simp only [List.length_drop, List.length_take]; rfl)) ?_; (with_reducible refine (slices_Contains_int_int.calls _ _ ((rd_T116 l0_0 t125003).f1) a2 true _ ?side1 ?side2 A13.out).mono ?_); (case side1 => exact (Kd.C_below HR125004_1.out HB.out)); (case side2 => exact HC125004_1.out); rintro e w20 ⟨rfl, hb⟩; refine ⟨_, rfl, ?_⟩; have n0_ := Aside0.mk (blk_below BK125001.out hb); have n1_ := Aside0.mk (below_step (by exact HB.out) hb); clear BK125001; clear HB; have BK125001 := n0_; have HB := n1_; clear n0_ n1_; (try clear hi)))
     go_ret
     exact ⟨by first | rfl | (simp [errW_none, errW_some] <;> rfl) | (simp [*, errW_none, errW_some] <;> rfl), by repeat (first | (with_reducible first | exact HB.out | apply below_alloc | apply pw_below_drewN | apply below_drew1 | refine below_set ?_ GE125001.out) | exact HB.out)⟩
    ·replace c14 := Bool.eq_false_iff.mpr c14
     subst c14
     have H1 : ((slices_Contains_int_int.f ((rd_T116 l0_0 t125003).f1) (wrap64 (-a2))).bind fun t125006 => (if t125006 = true then (some false) else ((impl_ImpliesLabel.f k l1 ((rd_T116 l0_0 t125003).f1)).bind fun t125007 => (some t125007)))) = some r := by rw [if_neg (show ¬ (false = true) by decide)] at H; exact H
     clear H
     have H := H1
     clear H1
     replace H := Option.bind_eq_some_iff.mp H
     obtain ⟨t125006, A210, H⟩ := H; have A21 := Aside0.mk A210; clear A210
     by_cases c22 : t125006 = true
     ·subst c22
      rw [if_pos rfl] at H
      obtain rfl := Option.some.inj H
      go_enter Try.func125, Try.ntmps125
      try go_wp2_with (first | ((with_reducible refine gate_dst (N := 3) rfl ?_); refine box_event ?hg (N := 3) ?hd (cs := #[.slice A0_0 l0_0.length c0_0, .slice A0_1 l0_1.length c0_1, .int .i64 a0_2]) (t := 35) ?hr ?_; (case hd => rfl); (case hg => rfl); (case hr => first | (go_simp; done) | (go_simp; rfl)); intro gb125001 hg w23 hbox hb; have n0_ := Aside0.mk (below_step (by exact HB.out) hb); have n1_ := Aside0.mk (hbox); have n2_ := Aside0.mk ((by rw [hg]; exact (below_size (by exact HB.out)) : w.heap.size ≤ gb125001)); have n3_ := n2_; clear HB; have HB := n0_; have BK125001 := n1_; have GW125001 := n2_; have GE125001 := n3_; clear n0_ n1_ n2_ n3_; clear hb hbox hg))
      have n0_ := Aside0.mk (blk_drew BK125001.out)
      have n1_ := Aside0.mk (below_drew1 HB.out)
      clear BK125001 HB; have BK125001 := n0_; have HB := n1_; clear n0_ n1_
      refine start_ (n := 5) (S := fun w' => w'.cell? ⟨gb125001, 0, none⟩ = some (.slice A0_0 l0_0.length c0_0) ∧ w'.cell? ⟨gb125001, 1, none⟩ = some (.slice A0_1 l0_1.length c0_1) ∧ w'.cell? ⟨gb125001, 2, none⟩ = some (.int .i64 a0_2)) (ds := []) #[false, false, false, false, false] (by kernel_rfl) rfl rfl ⟨(blk_cell BK125001.out 0).trans rfl, (blk_cell BK125001.out 1).trans rfl, (blk_cell BK125001.out 2).trans rfl⟩ (fun hHeld => ?_)
      generalize w23.drew = w24 at BK125001 HB hHeld ⊢
      refine pure_ (i := 1) (N := some 10) (v := ?_) (a' := ?_) #[false, true, false, false, false] rfl rfl (by kernel_rfl) (fun _ _ _ h => h) (Or.inl ⟨by rfl, ?_⟩) ?_ ?_
      rotate_left
      ·intro w'
       go_simp
       with_reducible rfl
      rotate_left
      ·simp only [Act.put, List.setIfInBounds_toArray, List.set_cons_zero, List.set_cons_succ, i64_w, i32_w]
       rfl
      refine take_ (i := 0) (N := some 9) (v := ?_) (a' := ?_) #[true, true, false, false, false] rfl rfl (by kernel_rfl) (fun _ _ _ h => h) (Or.inl ⟨by rfl, ?_⟩) hHeld ?_ ?_
      rotate_left
      ·rintro w' ⟨s0, s1, s2⟩
       go_simp
       with_reducible rfl
      rotate_left
      ·simp only [Act.put, List.setIfInBounds_toArray, List.set_cons_zero, List.set_cons_succ, i64_w, i32_w]
       rfl
      refine one_ (i := 2) (N := some 11) #[true, true, true, false, false] rfl rfl (by kernel_rfl) (by decide) (fun K hK => ?_)
      refine goes_ Try.func162 (by kernel_rfl) rfl #[.int .i64 a2] (by rfl) rfl rfl (by (try simp only [List.map_toArray, List.map_cons, List.map_nil]); first | done | rfl | (simp only [List.length_drop, List.length_take]; rfl)) ?_
      with_reducible refine (impl_propOf.calls a2 t125002 _ A4.out).mono ?_
      rintro e w25 ⟨rfl, hb⟩
      refine ⟨_, rfl, ?_⟩
      have n0_ := Aside0.mk (blk_below BK125001.out hb)
      have n1_ := Aside0.mk (below_step (by exact HB.out) hb)
      clear BK125001 HB; have BK125001 := n0_; have HB := n1_; clear n0_ n1_
      (try clear hb)
      (try clear hb2)
      (try clear hk)
      (try clear hi)
      refine hK.out _ _ ⟨(blk_cell BK125001.out 0).trans rfl, (blk_cell BK125001.out 1).trans rfl, (blk_cell BK125001.out 2).trans rfl⟩ (fun hHeld => ?_)
      clear hK K
      refine norm_ (a' := ?_) ?_ ?_
      rotate_left
      ·show Act.put _ (some 11) _ = _
       simp only [Act.put, List.setIfInBounds_toArray, List.set_cons_zero, List.set_cons_succ, i64_w, i32_w]
       rfl
      refine one_ (i := 3) (N := some 12) #[true, true, true, true, false] rfl rfl (by kernel_rfl) (by decide) (fun K hK => ?_)
      refine goes_ Try.func126 (by kernel_rfl) rfl #[.agg #[.slice A0_0 l0_0.length c0_0, .slice A0_1 l0_1.length c0_1, .int .i64 a0_2], .int .i64 t125002] (by rfl) rfl rfl (by (try simp only [List.map_toArray, List.map_cons, List.map_nil]); first | done | rfl | (simp only [List.length_drop, List.length_take]; rfl)) ?_
      with_reducible refine (impl_watcher.calls _ _ l0_0 _ _ l0_1 a0_2 t125002 t125003 _ ?side1 ?side2 ?side3 ?side4 A5.out).mono ?_
      (case side1 => exact (Kd.C_below HR0_0.out HB.out))
      (case side2 => exact HC0_0.out)
      (case side3 => exact (Kd.C_below HR0_1.out HB.out))
      (case side4 => exact HC0_1.out)
      rintro e w26 ⟨rfl, hb⟩
      refine ⟨_, rfl, ?_⟩
      have n0_ := Aside0.mk (blk_below BK125001.out hb)
      have n1_ := Aside0.mk (below_step (by exact HB.out) hb)
      clear BK125001 HB; have BK125001 := n0_; have HB := n1_; clear n0_ n1_
      (try clear hb)
      (try clear hb2)
      (try clear hk)
      (try clear hi)
      refine hK.out _ _ ⟨(blk_cell BK125001.out 0).trans rfl, (blk_cell BK125001.out 1).trans rfl, (blk_cell BK125001.out 2).trans rfl⟩ (fun hHeld => ?_)
      clear hK K
      refine norm_ (a' := ?_) ?_ ?_
      rotate_left
      ·show Act.put _ (some 12) _ = _
       simp only [Act.put, List.setIfInBounds_toArray, List.set_cons_zero, List.set_cons_succ, i64_w, i32_w]
       rfl
      refine pure_ (i := 4) (N := some 7) (v := ?_) (a' := ?_) #[true, true, true, true, true] rfl rfl (by kernel_rfl) (fun _ _ _ h => h) (Or.inl ⟨by rfl, ?_⟩) ?_ ?_
      rotate_left
      ·intro w'
       go_simp
       with_reducible rfl
      rotate_left
      ·simp only [Act.put, List.setIfInBounds_toArray, List.set_cons_zero, List.set_cons_succ, i64_w, i32_w]
       rfl
      refine done_ (by kernel_rfl) ?_
      have hcz27_0 : w26.cell? ⟨gb125001, 0, none⟩ = some (.slice A0_0 l0_0.length c0_0) := (blk_cell BK125001.out 0).trans rfl
      have hcz27_1 : w26.cell? ⟨gb125001, 1, none⟩ = some (.slice A0_1 l0_1.length c0_1) := (blk_cell BK125001.out 1).trans rfl
      have hcz27_2 : w26.cell? ⟨gb125001, 2, none⟩ = some (.int .i64 a0_2) := (blk_cell BK125001.out 2).trans rfl
      have p125004 : 0 ≤ (t125003 : Int) := of_decide_eq_true (by with_reducible assumption)
      have q125004 : t125003 < (l0_0.length : Int) := of_decide_eq_true (by with_reducible assumption)
      obtain ⟨ad125004, A125004_1, c125004_1, e125004, hx125004_0, hx125004_1, hx125004_2, hl125004_1, hi125004_1⟩ := at_T116 HR0_0.out t125003 p125004 q125004
      cases e125004
      replace hx125004_0 := (HB.out.cell (World.block_lt_of_cell? w _ hx125004_0)).trans hx125004_0
      replace hx125004_1 := (HB.out.cell (World.block_lt_of_cell? w _ hx125004_1)).trans hx125004_1
      replace hx125004_2 := (HB.out.cell (World.block_lt_of_cell? w _ hx125004_2)).trans hx125004_2
      have HR125004_1 := Aside0.mk hi125004_1; have HC125004_1 := Aside0.mk hl125004_1; clear hi125004_1 hl125004_1
      replace p125004 := eq_true p125004
      replace q125004 := eq_true q125004
      try go_wp2_with (first | ((with_reducible refine gate_callee (f := 134) rfl ?_); refine goesL_ (some 23) rfl rfl Try.func134 (by kernel_rfl) rfl #[.slice A125004_1 ((rd_T116 l0_0 t125003).f1).length c125004_1, .int .i64 a2] rfl (by (try simp only [List.map_toArray, List.map_cons, List.map_nil]); first | done | rfl | (simp only [List.length_drop, List.length_take]; rfl)) ?_; (with_reducible refine (slices_Contains_int_int.calls _ _ ((rd_T116 l0_0 t125003).f1) a2 false _ ?side1 ?side2 A13.out).mono ?_); (case side1 => exact (Kd.C_below HR125004_1.out HB.out)); (case side2 => exact HC125004_1.out); rintro e w28 ⟨rfl, hb⟩; refine ⟨_, rfl, ?_⟩; have n0_ := Aside0.mk (blk_below BK125001.out hb); have n1_ := Aside0.mk (below_step (by exact HB.out) hb); clear BK125001; clear HB; have BK125001 := n0_; have HB := n1_; clear n0_ n1_; (try clear hi)) | (go_at_call 134; (with_reducible refine (slices_Contains_int_int.calls _ _ ((rd_T116 l0_0 t125003).f1) (wrap64 (-a2)) true _ ?side1 ?side2 A21.out).mono ?_); (case side1 => exact (Kd.C_below HR125004_1.out HB.out)); (case side2 => exact HC125004_1.out); rintro e w29 ⟨rfl, hb⟩; have n0_ := Aside0.mk (blk_below BK125001.out hb); have n1_ := Aside0.mk (below_step (by exact HB.out) hb); clear BK125001; clear HB; have BK125001 := n0_; have HB := n1_; clear n0_ n1_; (try clear hi)))
      go_ret
      exact ⟨by first | rfl | (simp [errW_none, errW_some] <;> rfl) | (simp [*, errW_none, errW_some] <;> rfl), by repeat (first | (with_reducible first | exact HB.out | apply below_alloc | apply pw_below_drewN | apply below_drew1 | refine below_set ?_ GE125001.out) | exact HB.out)⟩
     ·replace c22 := Bool.eq_false_iff.mpr c22
      subst c22
      have H1 : ((impl_ImpliesLabel.f k l1 ((rd_T116 l0_0 t125003).f1)).bind fun t125007 => (some t125007)) = some r := by rw [if_neg (show ¬ (false = true) by decide)] at H; exact H
      clear H
      have H := H1
      clear H1
      replace H := Option.bind_eq_some_iff.mp H
      obtain ⟨t125007, A300, H⟩ := H; have A30 := Aside0.mk A300; clear A300
      obtain rfl := Option.some.inj H
      go_enter Try.func125, Try.ntmps125
      try go_wp2_with (first | ((with_reducible refine gate_dst (N := 3) rfl ?_); refine box_event ?hg (N := 3) ?hd (cs := #[.slice A0_0 l0_0.length c0_0, .slice A0_1 l0_1.length c0_1, .int .i64 a0_2]) (t := 35) ?hr ?_; (case hd => rfl); (case hg => rfl); (case hr => first | (go_simp; done) | (go_simp; rfl)); intro gb125001 hg w31 hbox hb; have n0_ := Aside0.mk (below_step (by exact HB.out) hb); have n1_ := Aside0.mk (hbox); have n2_ := Aside0.mk ((by rw [hg]; exact (below_size (by exact HB.out)) : w.heap.size ≤ gb125001)); have n3_ := n2_; clear HB; have HB := n0_; have BK125001 := n1_; have GW125001 := n2_; have GE125001 := n3_; clear n0_ n1_ n2_ n3_; clear hb hbox hg))
      have n0_ := Aside0.mk (blk_drew BK125001.out)
      have n1_ := Aside0.mk (below_drew1 HB.out)
      clear BK125001 HB; have BK125001 := n0_; have HB := n1_; clear n0_ n1_
      refine start_ (n := 5) (S := fun w' => w'.cell? ⟨gb125001, 0, none⟩ = some (.slice A0_0 l0_0.length c0_0) ∧ w'.cell? ⟨gb125001, 1, none⟩ = some (.slice A0_1 l0_1.length c0_1) ∧ w'.cell? ⟨gb125001, 2, none⟩ = some (.int .i64 a0_2)) (ds := []) #[false, false, false, false, false] (by kernel_rfl) rfl rfl ⟨(blk_cell BK125001.out 0).trans rfl, (blk_cell BK125001.out 1).trans rfl, (blk_cell BK125001.out 2).trans rfl⟩ (fun hHeld => ?_)
      generalize w31.drew = w32 at BK125001 HB hHeld ⊢
      refine pure_ (i := 1) (N := some 10) (v := ?_) (a' := ?_) #[false, true, false, false, false] rfl rfl (by kernel_rfl) (fun _ _ _ h => h) (Or.inl ⟨by rfl, ?_⟩) ?_ ?_
      rotate_left
      ·intro w'
       go_simp
       with_reducible rfl
      rotate_left
      ·simp only [Act.put, List.setIfInBounds_toArray, List.set_cons_zero, List.set_cons_succ, i64_w, i32_w]
       rfl
      refine take_ (i := 0) (N := some 9) (v := ?_) (a' := ?_) #[true, true, false, false, false] rfl rfl (by kernel_rfl) (fun _ _ _ h => h) (Or.inl ⟨by rfl, ?_⟩) hHeld ?_ ?_
      rotate_left
      ·rintro w' ⟨s0, s1, s2⟩
       go_simp
       with_reducible rfl
      rotate_left
      ·simp only [Act.put, List.setIfInBounds_toArray, List.set_cons_zero, List.set_cons_succ, i64_w, i32_w]
       rfl
      refine one_ (i := 2) (N := some 11) #[true, true, true, false, false] rfl rfl (by kernel_rfl) (by decide) (fun K hK => ?_)
      refine goes_ Try.func162 (by kernel_rfl) rfl #[.int .i64 a2] (by rfl) rfl rfl (by (try simp only [List.map_toArray, List.map_cons, List.map_nil]); first | done | rfl | (simp only [List.length_drop, List.length_take]; rfl)) ?_
      with_reducible refine (impl_propOf.calls a2 t125002 _ A4.out).mono ?_
      rintro e w33 ⟨rfl, hb⟩
      refine ⟨_, rfl, ?_⟩
      have n0_ := Aside0.mk (blk_below BK125001.out hb)
      have n1_ := Aside0.mk (below_step (by exact HB.out) hb)
      clear BK125001 HB; have BK125001 := n0_; have HB := n1_; clear n0_ n1_
      (try clear hb)
      (try clear hb2)
      (try clear hk)
      (try clear hi)
      refine hK.out _ _ ⟨(blk_cell BK125001.out 0).trans rfl, (blk_cell BK125001.out 1).trans rfl, (blk_cell BK125001.out 2).trans rfl⟩ (fun hHeld => ?_)
      clear hK K
      refine norm_ (a' := ?_) ?_ ?_
      rotate_left
      ·show Act.put _ (some 11) _ = _
       simp only [Act.put, List.setIfInBounds_toArray, List.set_cons_zero, List.set_cons_succ, i64_w, i32_w]
       rfl
      refine one_ (i := 3) (N := some 12) #[true, true, true, true, false] rfl rfl (by kernel_rfl) (by decide) (fun K hK => ?_)
      refine goes_ Try.func126 (by kernel_rfl) rfl #[.agg #[.slice A0_0 l0_0.length c0_0, .slice A0_1 l0_1.length c0_1, .int .i64 a0_2], .int .i64 t125002] (by rfl) rfl rfl (by (try simp only [List.map_toArray, List.map_cons, List.map_nil]); first | done | rfl | (simp only [List.length_drop, List.length_take]; rfl)) ?_
      with_reducible refine (impl_watcher.calls _ _ l0_0 _ _ l0_1 a0_2 t125002 t125003 _ ?side1 ?side2 ?side3 ?side4 A5.out).mono ?_
      (case side1 => exact (Kd.C_below HR0_0.out HB.out))
      (case side2 => exact HC0_0.out)
      (case side3 => exact (Kd.C_below HR0_1.out HB.out))
      (case side4 => exact HC0_1.out)
      rintro e w34 ⟨rfl, hb⟩
      refine ⟨_, rfl, ?_⟩
      have n0_ := Aside0.mk (blk_below BK125001.out hb)
      have n1_ := Aside0.mk (below_step (by exact HB.out) hb)
      clear BK125001 HB; have BK125001 := n0_; have HB := n1_; clear n0_ n1_
      (try clear hb)
      (try clear hb2)
      (try clear hk)
      (try clear hi)
      refine hK.out _ _ ⟨(blk_cell BK125001.out 0).trans rfl, (blk_cell BK125001.out 1).trans rfl, (blk_cell BK125001.out 2).trans rfl⟩ (fun hHeld => ?_)
      clear hK K
      refine norm_ (a' := ?_) ?_ ?_
      rotate_left
      ·show Act.put _ (some 12) _ = _
       simp only [Act.put, List.setIfInBounds_toArray, List.set_cons_zero, List.set_cons_succ, i64_w, i32_w]
       rfl
      refine pure_ (i := 4) (N := some 7) (v := ?_) (a' := ?_) #[true, true, true, true, true] rfl rfl (by kernel_rfl) (fun _ _ _ h => h) (Or.inl ⟨by rfl, ?_⟩) ?_ ?_
      rotate_left
      ·intro w'
       go_simp
       with_reducible rfl
      rotate_left
      ·simp only [Act.put, List.setIfInBounds_toArray, List.set_cons_zero, List.set_cons_succ, i64_w, i32_w]
       rfl
      refine done_ (by kernel_rfl) ?_
      have hcz35_0 : w34.cell? ⟨gb125001, 0, none⟩ = some (.slice A0_0 l0_0.length c0_0) := (blk_cell BK125001.out 0).trans rfl
      have hcz35_1 : w34.cell? ⟨gb125001, 1, none⟩ = some (.slice A0_1 l0_1.length c0_1) := (blk_cell BK125001.out 1).trans rfl
      have hcz35_2 : w34.cell? ⟨gb125001, 2, none⟩ = some (.int .i64 a0_2) := (blk_cell BK125001.out 2).trans rfl
      have p125004 : 0 ≤ (t125003 : Int) := of_decide_eq_true (by with_reducible assumption)
      have q125004 : t125003 < (l0_0.length : Int) := of_decide_eq_true (by with_reducible assumption)
      obtain ⟨ad125004, A125004_1, c125004_1, e125004, hx125004_0, hx125004_1, hx125004_2, hl125004_1, hi125004_1⟩ := at_T116 HR0_0.out t125003 p125004 q125004
      cases e125004
      replace hx125004_0 := (HB.out.cell (World.block_lt_of_cell? w _ hx125004_0)).trans hx125004_0
      replace hx125004_1 := (HB.out.cell (World.block_lt_of_cell? w _ hx125004_1)).trans hx125004_1
      replace hx125004_2 := (HB.out.cell (World.block_lt_of_cell? w _ hx125004_2)).trans hx125004_2
      have HR125004_1 := Aside0.mk hi125004_1; have HC125004_1 := Aside0.mk hl125004_1; clear hi125004_1 hl125004_1
      replace p125004 := eq_true p125004
      replace q125004 := eq_true q125004
      try go_wp2_with (first | ((with_reducible refine gate_callee (f := 134) rfl ?_); refine goesL_ (some 23) rfl rfl Try.func134 (by kernel_rfl) rfl #[.slice A125004_1 ((rd_T116 l0_0 t125003).f1).length c125004_1, .int .i64 a2] rfl (by (try simp only [List.map_toArray, List.map_cons, List.map_nil]); first | done | rfl | (simp only [List.length_drop, List.length_take]; rfl)) ?_; (with_reducible refine (slices_Contains_int_int.calls _ _ ((rd_T116 l0_0 t125003).f1) a2 false _ ?side1 ?side2 A13.out).mono ?_); (case side1 => exact (Kd.C_below HR125004_1.out HB.out)); (case side2 => exact HC125004_1.out); rintro e w36 ⟨rfl, hb⟩; refine ⟨_, rfl, ?_⟩; have n0_ := Aside0.mk (blk_below BK125001.out hb); have n1_ := Aside0.mk (below_step (by exact HB.out) hb); clear BK125001; clear HB; have BK125001 := n0_; have HB := n1_; clear n0_ n1_; (try clear hi)) | (go_at_call 134; (with_reducible refine (slices_Contains_int_int.calls _ _ ((rd_T116 l0_0 t125003).f1) (wrap64 (-a2)) false _ ?side1 ?side2 A21.out).mono ?_); (case side1 => exact (Kd.C_below HR125004_1.out HB.out)); (case side2 => exact HC125004_1.out); rintro e w37 ⟨rfl, hb⟩; have n0_ := Aside0.mk (blk_below BK125001.out hb); have n1_ := Aside0.mk (below_step (by exact HB.out) hb); clear BK125001; clear HB; have BK125001 := n0_; have HB := n1_; clear n0_ n1_; (try clear hi)) | (go_at_call 163; (with_reducible refine (impl_ImpliesLabel.calls k _ _ l1 _ _ ((rd_T116 l0_0 t125003).f1) t125007 _ ?side1 ?side2 ?side3 ?side4 A30.out).mono ?_); (case side1 => exact (Kd.C_below HR1.out HB.out)); (case side2 => exact HC1.out); (case side3 => exact (Kd.C_below HR125004_1.out HB.out)); (case side4 => exact HC125004_1.out); rintro e w38 ⟨rfl, hb⟩; have n0_ := Aside0.mk (blk_below BK125001.out hb); have n1_ := Aside0.mk (below_step (by exact HB.out) hb); clear BK125001; clear HB; have BK125001 := n0_; have HB := n1_; clear n0_ n1_; (try clear hi)))
      go_ret
      exact ⟨by first | rfl | (simp [errW_none, errW_some] <;> rfl) | (simp [*, errW_none, errW_some] <;> rfl), by repeat (first | (with_reducible first | exact HB.out | apply below_alloc | apply pw_below_drewN | apply below_drew1 | refine below_set ?_ GE125001.out) | exact HB.out)⟩
   ·rw [if_neg c12] at H
    exact absurd H (by simp)
  ·rw [if_neg c11] at H
   exact absurd H (by simp)

end Go.Proofs.Ytodfnelilhjoeaa.Pr
namespace Go.Proofs.Ytodfnelilhjoeaa.Pr
open Go.RowKit Go.Proofs.YtodfnelilhjoeaaW.PrintWords Go.Proofs.Ytodfnelilhjoeaa.Ni
def watchedC (ns : List PNode) (lb : List Int) (x w : Int) : Bool :=
 decide (0 ≤ w) && !((rd_T116 ns w).f1.any fun y => decide (x = y)) && !((rd_T116 ns w).f1.any fun y => decide (-x = y)) && impB lb (rd_T116 ns w).f1
def watchedB (ns : List PNode) (lb : List Int) (x : Int) : Bool := watchedC ns lb x (pwatchI ns (prp x))
theorem isWatched_f (ns : List PNode) (ts : List PTie) (z : Int) (lb : List Int) (x : Int) (hb : ∀ n ∈ ns, n.f1.length ≤ 9223372036854775807) (hl : lb.length ≤ 9223372036854775807) (hx : litOk x = true) (k : Nat) (hk : 2 ^ 64 ≤ k) :
  impl_isWatched.f k ns ts z lb x = some (watchedB ns lb x) := by
 have hx3 := (litOk_iff x).1 hx
 have hbd := idxOf_bd (fun n : PNode => decide (0 < prp x) && decide (n.f2 = prp x)) ns
 unfold impl_isWatched.f
 rw [propOf_f hx, Option.bind_some]
 unfold impl_watcher.f watchedB watchedC
 rw [Option.bind_some]
 have hbd' : -1 ≤ pwatchI ns (prp x) ∧ pwatchI ns (prp x) < ns.length := hbd
 generalize pwatchI ns (prp x) = w at hbd' ⊢
 by_cases h : w < 0
 ·rw [if_pos h, decide_eq_false (show ¬ 0 ≤ w by omega)]; rfl
 ·rw [if_neg h, if_pos (by omega), if_pos (by omega), decide_eq_true (show 0 ≤ w by omega)]
  have hm : (rd_T116 ns w).f1.length ≤ 9223372036854775807 := by
   obtain ⟨n, rfl⟩ := Int.eq_ofNat_of_zero_le (show 0 ≤ w by omega)
   rw [show rd_T116 ns (n : Int) = ns.getD n z116 from rdN_nat ns n]
   exact hb _ (getD_mem (by omega) _)
  unfold slices_Contains_int_int.f
  rw [Option.bind_some, wrap_id (i := -x) (by omega) (by omega), impl_ImpliesLabel_f lb _ hl hm k hk]
  simp only [Option.bind_some, Bool.true_and]
  cases (rd_T116 ns w).f1.any fun y => decide (x = y)
  ·cases (rd_T116 ns w).f1.any fun y => decide (-x = y)
   ·simp
   ·rfl
  ·rfl
end Go.Proofs.Ytodfnelilhjoeaa.Pr
namespace Go.Proofs.Ytodfnelilhjoeaa.Pr
open Go.RowKit Go.Proofs.YtodfnelilhjoeaaW.PrintWords Go.Proofs.YtodfnelilhjoeaaW.PrintLast Go.Proofs.YtodfnelilhjoeaaW.PrintMore
attribute [local go_sem] max2_int min2_int max_two min_two max_three min_three max_four min_four
set_option linter.unusedVariables false
set_option linter.unusedSimpArgs false
open Go.Proofs.Ytodfnelilhjoeaa.Ni
set_option maxHeartbeats 4000000 in
theorem impl_Tie_135.any (p : S90 → Bool) (g : Nat) (lb : Array Value) (eg : ∀ args w, (callFunc g args).run Try.prog w = .ok (.enter g args) w) (A0 : Option Addr) (c0 : Nat) (l0 : List S90) (w : World) (hr0 : Kd.C k90 w A0 l0.length l0)
  (hp : ∀ (W : World) (x : S90), x ∈ l0 → Below w.heap.size w W → Calls Try.prog g (#[.agg #[.int .i64 x.f0, .int .i64 x.f1, .int .i64 x.f2, .int .i64 x.f3, .bool x.f4]] ++ lb) W fun e w' => e = .returned (.bool (p x)) ∧ Below W.heap.size W w') :
  Calls Try.prog 135 #[.slice A0 l0.length c0, .func (.func g) #[] lb] w fun e w' => e = .returned (.int .i64 (idxOf p l0)) ∧ Below w.heap.size w w' := by
 have HR0 := Aside0.mk hr0; have HP := Aside0.mk hp; clear hr0 hp
 have HL : l0.length ≤ 9223372036854775807 := HR0.out.2.1
 go_enter Try.func135, Try.ntmps135
 go_wp2
 go_loopg [5, 8] l0.length (fun gg _ s8 wr => ∃ kk : Nat, Aside0 (kk ≤ l0.length) ∧ Aside0 (l0.length - kk ≤ gg) ∧ s8 = .int .i64 kk ∧ Aside0 (Below w.heap.size w wr) ∧ Aside0 (∀ j y, j < kk → l0[j]? = some y → p y = false))
 case atStart => exact ⟨0, ⟨Nat.zero_le _⟩, ⟨by omega⟩, rfl, ⟨Below.refl _ _⟩, ⟨fun j y hj => absurd hj (Nat.not_lt_zero _)⟩⟩
 case round =>
  obtain ⟨kk, HK, HG, rfl, HB, HN⟩ := hrel
  by_cases hlt : kk < l0.length
  ·have hltz : (kk : Int) < (l0.length : Int) := by omega
   obtain ⟨ad, e1, hx0, hx1, hx2, hx3, hx4⟩ := at_T90 HR0.out (kk : Int) (by omega) hltz
   cases e1
   replace hx0 := (HB.out.cell (World.block_lt_of_cell? w _ hx0)).trans hx0
   rw [Int.toNat_natCast] at hx0
   replace hx1 := (HB.out.cell (World.block_lt_of_cell? w _ hx1)).trans hx1
   rw [Int.toNat_natCast] at hx1
   replace hx2 := (HB.out.cell (World.block_lt_of_cell? w _ hx2)).trans hx2
   rw [Int.toNat_natCast] at hx2
   replace hx3 := (HB.out.cell (World.block_lt_of_cell? w _ hx3)).trans hx3
   rw [Int.toNat_natCast] at hx3
   replace hx4 := (HB.out.cell (World.block_lt_of_cell? w _ hx4)).trans hx4
   rw [Int.toNat_natCast] at hx4
   have hxe : l0[kk]? = some (rd_T90 l0 (kk : Int)) := by
    unfold rd_T90
    rw [Int.toNat_natCast, List.getD_eq_getElem?_getD, List.getElem?_eq_getElem hlt]; rfl

   generalize rd_T90 l0 (kk : Int) = y at hx0 hx1 hx2 hx3 hx4 hxe
   have HX := Aside0.mk hxe; clear hxe
   have hcall := HP.out wr y (List.mem_of_getElem? HX.out) HB.out

   cases hq : p y with
   | true =>
    have HQ := Aside0.mk hq
    rw [hq] at hcall
    clear hq
    go_wp2_with (go_at_fn g; refine hcall.mono ?_; rintro e w' ⟨rfl, hb⟩)
    go_ret
    exact ⟨by rw [idxOf_hit p l0 kk y HX.out HQ.out HN.out]; rfl, HB.out.trans (hb.mono HB.out.size)⟩
   | false =>
    have HQ := Aside0.mk hq
    rw [hq] at hcall
    clear hq
    go_wp2_with (go_at_fn g; refine hcall.mono ?_; rintro e w' ⟨rfl, hb⟩)
    go_roundg (l0.length - (kk + 1))
    case measure => have := HG.out; omega
    case rel =>
     refine ⟨kk + 1, ⟨by omega⟩, ⟨by omega⟩, by go_num, ⟨HB.out.trans (hb.mono HB.out.size)⟩, ⟨fun j y' hj hy => ?_⟩⟩
     by_cases e : j = kk
     ·subst e
      rw [HX.out] at hy
      cases hy
      exact HQ.out
     ·exact HN.out j y' (by omega) hy
  ·have hltz : ¬ (kk : Int) < (l0.length : Int) := by omega
   have : kk = l0.length := by have := HK.out; omega
   subst this
   go_wp2
   go_ret
   exact ⟨by rw [idxOf_miss p l0 HN.out]; rfl, HB.out⟩

set_option maxHeartbeats 4000000 in
theorem impl_Tie_146.any (p : S90 → Bool) (g : Nat) (lb : Array Value) (eg : ∀ args w, (callFunc g args).run Try.prog w = .ok (.enter g args) w) (A0 : Option Addr) (c0 : Nat) (l0 : List S90) (w : World) (hr0 : Kd.C k90 w A0 l0.length l0)
  (hp : ∀ (W : World) (x : S90), x ∈ l0 → Below w.heap.size w W → Calls Try.prog g (#[.agg #[.int .i64 x.f0, .int .i64 x.f1, .int .i64 x.f2, .int .i64 x.f3, .bool x.f4]] ++ lb) W fun e w' => e = .returned (.bool (p x)) ∧ Below W.heap.size W w') :
  Calls Try.prog 146 #[.slice A0 l0.length c0, .func (.func g) #[] lb] w fun e w' => e = .returned (.bool (l0.any p)) ∧ Below w.heap.size w w' := by
 have HI := Aside0.mk (impl_Tie_135.any p g lb eg A0 c0 l0 w hr0 hp)
 clear hr0 hp
 have HE := Aside0.mk (idxOf_any p l0)
 go_enter Try.func146, Try.ntmps146
 go_wp2_with (go_at_call 135; refine HI.out.mono ?_; rintro e w' ⟨rfl, hb⟩)
 go_ret
 exact ⟨by rw [← HE.out]; rfl, hb⟩

end Go.Proofs.Ytodfnelilhjoeaa.Pr
namespace Go.Proofs.Ytodfnelilhjoeaa.Pr
open Go.RowKit Go.Proofs.YtodfnelilhjoeaaW.PrintWords Go.Proofs.YtodfnelilhjoeaaW.PrintLast Go.Proofs.YtodfnelilhjoeaaW.PrintMore
attribute [local go_sem] max2_int min2_int max_two min_two max_three min_three max_four min_four
set_option linter.unusedVariables false
set_option linter.unusedSimpArgs false
def impl_isSpan.f (a0 : Int) : Option (Bool) := if a0 ≥ (-20) then (some (decide (a0 ≤ 20))) else (some false)
set_option maxHeartbeats 8000000 in
set_option maxRecDepth 100000 in
theorem impl_isSpan.calls (a0 : Int) (r : Bool) (w : World) (h : impl_isSpan.f a0 = some r) :
  Calls Try.prog 158 #[.int .i64 a0] w fun e w' => e = .returned (.bool r) ∧ Drawn0 w w' := by
 have H : (if a0 ≥ (-20) then (some (decide (a0 ≤ 20))) else (some false)) = some r := h
 clear h
 by_cases c2 : a0 ≥ (-20)
 ·rw [if_pos c2] at H
  have c2b0 : decide ((-20) ≤ a0) = true := decide_eq_true c2
  clear c2
  obtain rfl := Option.some.inj H
  go_enter Try.func158, Try.ntmps158
  go_wp2
  go_ret
  exact ⟨by first | rfl | (simp; done) | (simp [*]; done), by repeat (first | exact Drawn0.refl _ | apply Drawn0.step)⟩
 ·rw [if_neg c2] at H
  have c2b0 : decide ((-20) ≤ a0) = false := decide_eq_false c2
  clear c2
  obtain rfl := Option.some.inj H
  go_enter Try.func158, Try.ntmps158
  go_wp2
  go_ret
  exact ⟨by first | rfl | (simp; done) | (simp [*]; done), by repeat (first | exact Drawn0.refl _ | apply Drawn0.step)⟩

def impl_isNode.f (a0 : Int) (a1 : Int) : Option (Bool) := if a1 ≥ 0 then (some (decide (a1 < a0))) else (some false)
set_option maxHeartbeats 8000000 in
set_option maxRecDepth 100000 in
theorem impl_isNode.calls (a0 : Int) (a1 : Int) (r : Bool) (w : World) (h : impl_isNode.f a0 a1 = some r) :
  Calls Try.prog 90 #[.int .i64 a0, .int .i64 a1] w fun e w' => e = .returned (.bool r) ∧ Drawn0 w w' := by
 have H : (if a1 ≥ 0 then (some (decide (a1 < a0))) else (some false)) = some r := h
 clear h
 by_cases c3 : a1 ≥ 0
 ·rw [if_pos c3] at H
  have c3b0 : decide (0 ≤ a1) = true := decide_eq_true c3
  clear c3
  obtain rfl := Option.some.inj H
  go_enter Try.func90, Try.ntmps90
  go_wp2
  go_ret
  exact ⟨by first | rfl | (simp; done) | (simp [*]; done), by repeat (first | exact Drawn0.refl _ | apply Drawn0.step)⟩
 ·rw [if_neg c3] at H
  have c3b0 : decide (0 ≤ a1) = false := decide_eq_false c3
  clear c3
  obtain rfl := Option.some.inj H
  go_enter Try.func90, Try.ntmps90
  go_wp2
  go_ret
  exact ⟨by first | rfl | (simp; done) | (simp [*]; done), by repeat (first | exact Drawn0.refl _ | apply Drawn0.step)⟩

end Go.Proofs.Ytodfnelilhjoeaa.Pr
