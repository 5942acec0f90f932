/- The texts of one claim, put together by a program of this session. -/
import Derived.Test.YtodfnelilhjoeaaBAcc1x1
namespace Go.Proofs.Ytodfnelilhjoeaa.Pr
open Go.RowKit Go.Proofs.YtodfnelilhjoeaaW.PrintWords Go.Proofs.YtodfnelilhjoeaaW.PrintLast Go.Proofs.YtodfnelilhjoeaaW.PrintMore
attribute [local go_sem] max2_int min2_int max_two min_two max_three min_three max_four min_four
set_option linter.unusedVariables false
set_option linter.unusedSimpArgs false

/-! ### laws_toTieS: function 71 -/
def laws_toTieS.l0 : Nat → List (S130) → List (S90) → Int → Option ((List (S90)))
 | 0, _, _, _ => none
 | k + 1, x0, x3, x4 => if x4 < (x0.length : Int) then (if 0 ≤ x4 then ((laws_toTie.f ((rd_T130 x0 x4).f0) ((rd_T130 x0 x4).f1) ((rd_T130 x0 x4).f2) ((rd_T130 x0 x4).f3) ((rd_T130 x0 x4).f4)).bind fun bt71005 => (if x4 < (x3.length : Int) then (laws_toTieS.l0 k x0 (x3.set (x4 : Int).toNat (⟨bt71005.1, bt71005.2.1, bt71005.2.2.1, bt71005.2.2.2.1, bt71005.2.2.2.2⟩ : S90)) (wrap64 (x4 + 1))) else (none))) else (none)) else (some x3)
def laws_toTieS.f (k : Nat) (l0 : List (S130)) : Option ((List (S90))) := if 0 ≤ (l0.length : Int) then (if ((l0.length : Int) : Int).toNat ≤ 7036874417766 then (laws_toTieS.l0 k l0 (List.replicate ((l0.length : Int) : Int).toNat z90) 0) else (none)) else (none)
set_option maxHeartbeats 8000000 in
set_option maxRecDepth 100000 in
theorem laws_toTieS.calls (k : Nat) (A0 : Option Addr) (c0 : Nat) (l0 : List (S130)) (r : List (S90)) (w : World) (hr0 : Kd.C k130 w A0 l0.length l0) (hc0 : l0.length ≤ c0) (h : laws_toTieS.f k l0 = some r) :
  Calls Try.prog 71 #[.slice A0 l0.length c0] w fun e w' => ∃ v0_ : Value, e = .returned (v0_) ∧ Kd.R k90 90 w' w.heap.size (fun _ => True) v0_ r ∧ Below w.heap.size w w' := by
 have hu130 := Try.underlying130
 have hu90 := Try.underlying90
 have HR0 := Aside0.mk hr0; have HC0 := Aside0.mk hc0; clear hr0 hc0
 have HB := Aside0.mk (Below.refl w.heap.size w)
 have H : (if 0 ≤ (l0.length : Int) then (if ((l0.length : Int) : Int).toNat ≤ 7036874417766 then (laws_toTieS.l0 k l0 (List.replicate ((l0.length : Int) : Int).toNat z90) 0) else (none)) else (none)) = some r := h
 clear h
 by_cases c2 : 0 ≤ (l0.length : Int)
 ·rw [if_pos c2] at H
  have c2b0 := eq_true c2
  have c2b1 : decide (0 ≤ (l0.length : Int)) = true := decide_eq_true c2
  clear c2
  by_cases c3 : ((l0.length : Int) : Int).toNat ≤ 7036874417766
  ·rw [if_pos c3] at H
   have c3b0 := eq_true c3
   have c3b1 : decide (((l0.length : Int) : Int).toNat ≤ 7036874417766) = true := decide_eq_true c3
   clear c3
   obtain ⟨y71001, hy71001⟩ : ∃ y_ : List (S90), y_ = (List.replicate ((l0.length : Int) : Int).toNat z90) := ⟨_, rfl⟩
   replace H : (laws_toTieS.l0 k l0 y71001 0) = some r := by first | (rw [hy71001]; with_reducible exact H) | (have H2_ := (Option.bind_some _ _).symm.trans H; rw [hy71001]; with_reducible exact H2_) | (have H2_ := (Option.bind_some _ _).symm.trans H; with_reducible exact H2_) | with_reducible exact H | (rw [hy71001]; exact H) | exact H
   have Ny71001 := Aside0.mk hy71001; clear hy71001
   have H' := Aside0.mk H
   clear H
   go_enter Try.func71, Try.ntmps71
   go_wp2_with (first | ((with_reducible refine gate_dst (N := 7) rfl ?_); refine Kd.R_make k90 _ 90 rfl (N := 7) rfl 33 _ _ rfl (l0.length : Int) rfl rfl Try.underlying33 (.agg #[(.int .i64 0), (.int .i64 0), (.int .i64 0), (.int .i64 0), (.bool false)]) 40 info90 rfl (by decide) (by omega) z90 (ok := fun _ => True) (okp := fun _ => True) (k90_mkM _ _ _ z90 ) (fun _ hk => hk) trivial (of_decide_eq_true (by first | (with_reducible assumption) | assumption)) (Nat.le_trans (Nat.mul_le_mul_right _ (of_decide_eq_true (by first | (with_reducible assumption) | assumption) : (l0.length : Int).toNat ≤ 7036874417766)) (by omega)) (Below.refl _ _) (Nat.le_refl _) ?_; intro v71002 w4 ho5 hb hg_ hnew_; clear hg_ hnew_; (first | rw [← Ny71001.out] at ho5 | (simp only [Int.reduceToNat] at ho5; rw [← Ny71001.out] at ho5)); have n0_ := Aside0.mk (Kd.R_lower ho5 (below_size (by repeat (first | (with_reducible first | exact HB.out | apply below_alloc | apply pw_below_drewN | apply below_drew1) | exact HB.out)))); have n1_ := Aside0.mk (below_step (by repeat (first | (with_reducible first | exact HB.out | apply below_alloc | apply pw_below_drewN | apply below_drew1) | exact HB.out)) hb); clear HB; have HO71003 := n0_; have HB := n1_; clear n0_ n1_; clear hb ho5))
   go_loopg [4] k (fun kq v4 w' => ∃ (x3_1 : List (S90)) (x4_1 : Int), v4 = .int .i64 x4_1 ∧ Aside0 (laws_toTieS.l0 kq l0 x3_1 x4_1 = some r) ∧ Aside0 (kq ≤ k) ∧ Aside0 (Kd.R k90 90 w' w.heap.size (fun _ => True) v71002 x3_1) ∧ Aside0 (Below w.heap.size w w'))
   case atStart => exact ⟨(y71001), (0), (by first | rfl | (simp; done) | (simp [*]; done)), H', ⟨Nat.le_refl _⟩, ⟨by (with_reducible repeat (first | apply Kd.R_alloc | apply Kd.R_drewN | apply Kd.R_drew)); exact HO71003.out⟩, ⟨by repeat (first | (with_reducible first | exact HB.out | apply below_alloc | apply pw_below_drewN | apply below_drew1) | exact HB.out)⟩⟩
   case round =>
    clear H'
    try clear c2
    try clear c2b0
    try clear c2b1
    try clear p2
    try clear c3
    try clear c3b0
    try clear c3b1
    obtain ⟨x3_1, x4_1, rfl, HA, HK1, HO_3, HB⟩ := hrel
    cases gk with
    | zero => exact absurd HA.out (by simp [laws_toTieS.l0])
    | succ k1 =>
     have H := HA.out
     clear HA
     simp only [laws_toTieS.l0] at H
     by_cases c6 : x4_1 < (l0.length : Int)
     ·rw [if_pos c6] at H
      have c6b0 : decide (x4_1 < (l0.length : Int)) = true := decide_eq_true c6
      clear c6
      by_cases c7 : 0 ≤ x4_1
      ·rw [if_pos c7] at H
       have c7b0 : decide (0 ≤ x4_1) = true := decide_eq_true c7
       clear c7
       replace H := Option.bind_eq_some_iff.mp H
       obtain ⟨⟨t71005, t71006, t71007, t71008, t71009⟩, A80, H⟩ := H
       replace H : (if x4_1 < (x3_1.length : Int) then (laws_toTieS.l0 k1 l0 (x3_1.set (x4_1 : Int).toNat (⟨t71005, t71006, t71007, t71008, t71009⟩ : S90)) (wrap64 (x4_1 + 1))) else (none)) = some r := H
       have A8 := Aside0.mk A80; clear A80
       by_cases c9 : x4_1 < (x3_1.length : Int)
       ·rw [if_pos c9] at H
        have c9b0 : decide (x4_1 < (x3_1.length : Int)) = true := decide_eq_true c9
        clear c9
        obtain ⟨y71010, hy71010⟩ : ∃ y_ : List (S90), y_ = (x3_1.set (x4_1 : Int).toNat (⟨t71005, t71006, t71007, t71008, t71009⟩ : S90)) := ⟨_, rfl⟩
        replace H : (laws_toTieS.l0 k1 l0 y71010 (wrap64 (x4_1 + 1))) = some r := by first | (rw [hy71010]; with_reducible exact H) | (have H2_ := (Option.bind_some _ _).symm.trans H; rw [hy71010]; with_reducible exact H2_) | (have H2_ := (Option.bind_some _ _).symm.trans H; with_reducible exact H2_) | with_reducible exact H | (rw [hy71010]; exact H) | exact H
        have Ny71010 := Aside0.mk hy71010; clear hy71010
        have H' := Aside0.mk H
        clear H
        have p71004 : 0 ≤ (x4_1 : Int) := of_decide_eq_true (by first | (with_reducible assumption) | assumption)
        have q71004 : x4_1 < (l0.length : Int) := of_decide_eq_true (by first | (with_reducible assumption) | assumption)
        obtain ⟨ad71004, e71004, hx71004_0, hx71004_1, hx71004_2, hx71004_3, hx71004_4⟩ := at_T130 HR0.out x4_1 p71004 q71004
        cases e71004
        replace hx71004_0 := (HB.out.cell (World.block_lt_of_cell? w _ hx71004_0)).trans hx71004_0
        replace hx71004_1 := (HB.out.cell (World.block_lt_of_cell? w _ hx71004_1)).trans hx71004_1
        replace hx71004_2 := (HB.out.cell (World.block_lt_of_cell? w _ hx71004_2)).trans hx71004_2
        replace hx71004_3 := (HB.out.cell (World.block_lt_of_cell? w _ hx71004_3)).trans hx71004_3
        replace hx71004_4 := (HB.out.cell (World.block_lt_of_cell? w _ hx71004_4)).trans hx71004_4
        replace p71004 := eq_true p71004
        replace q71004 := eq_true q71004
        go_wp2_with (first | ((with_reducible refine gate_callee (f := 120) rfl ?_); refine goesL_ (some 20) rfl rfl Try.func120 (by kernel_rfl) rfl #[.agg #[.int .i64 ((rd_T130 l0 x4_1).f0), .int .i64 ((rd_T130 l0 x4_1).f1), .int .i64 ((rd_T130 l0 x4_1).f2), .int .i64 ((rd_T130 l0 x4_1).f3), .bool ((rd_T130 l0 x4_1).f4)]] rfl (by (try simp only [List.map_toArray, List.map_cons, List.map_nil]); first | done | rfl | (simp only [List.length_drop, List.length_take]; rfl)) ?_; (with_reducible refine (laws_toTie.calls ((rd_T130 l0 x4_1).f0) ((rd_T130 l0 x4_1).f1) ((rd_T130 l0 x4_1).f2) ((rd_T130 l0 x4_1).f3) ((rd_T130 l0 x4_1).f4) t71005 t71006 t71007 t71008 t71009 _ A8.out).mono ?_); rintro e w11 ⟨rfl, hb⟩; refine ⟨_, rfl, ?_⟩; have n0_ := Aside0.mk (Kd.R_below (by (with_reducible repeat (first | apply Kd.R_alloc | apply Kd.R_drewN | apply Kd.R_drew)); exact HO_3.out) hb); have n1_ := Aside0.mk (below_step (by repeat (first | (with_reducible first | exact HB.out | apply below_alloc | apply pw_below_drewN | apply below_drew1) | exact HB.out)) hb); clear HO_3; clear HB; have HO_3 := n0_; have HB := n1_; clear n0_ n1_; (try clear hb); (try clear hb2); (try clear hk); (try clear hi); have p10 : 0 ≤ (x4_1 : Int) := of_decide_eq_true (by first | (with_reducible assumption) | assumption); have q10 : (x4_1 : Int) < ((x3_1.length : Int) : Int) := of_decide_eq_true (by first | (with_reducible assumption) | assumption); obtain ⟨go10, co10, eo10, gb10, gl10, cl10, HG10⟩ := Kd.R_form HO_3.out (by omega); (first | cases eo10 | (injection eo10 with ea_ en_ ec_; (first | subst ea_ | (injection ea_ with ea_; subst ea_)); subst ec_; clear en_)); have GB10 := Aside0.mk gb10; have GG10 := Aside0.mk HG10; clear gb10 gl10 HG10; obtain ⟨ce10, hcl10, hM10, hcc10, hfr10⟩ := Kd.R_elem HO_3.out z90 (x4_1 : Int) p10 q10; obtain rfl := k90_openM hM10; have hx10_0 : w11.cell? ⟨go10, (x4_1 : Int).toNat * 5, none⟩ = some (.int .i64 ((rd_T90 x3_1 x4_1).f0)) := hcc10 0 _ rfl; have hx10_1 : w11.cell? ⟨go10, (x4_1 : Int).toNat * 5 + 1, none⟩ = some (.int .i64 ((rd_T90 x3_1 x4_1).f1)) := hcc10 1 _ rfl; have hx10_2 : w11.cell? ⟨go10, (x4_1 : Int).toNat * 5 + 2, none⟩ = some (.int .i64 ((rd_T90 x3_1 x4_1).f2)) := hcc10 2 _ rfl; have hx10_3 : w11.cell? ⟨go10, (x4_1 : Int).toNat * 5 + 3, none⟩ = some (.int .i64 ((rd_T90 x3_1 x4_1).f3)) := hcc10 3 _ rfl; have hx10_4 : w11.cell? ⟨go10, (x4_1 : Int).toNat * 5 + 4, none⟩ = some (.bool ((rd_T90 x3_1 x4_1).f4)) := hcc10 4 _ rfl; have hf10_0 : w11.frozen? ⟨go10, (x4_1 : Int).toNat * 5, none⟩ = false := hfr10 0; have hf10_1 : w11.frozen? ⟨go10, (x4_1 : Int).toNat * 5 + 1, none⟩ = false := hfr10 1; have hf10_2 : w11.frozen? ⟨go10, (x4_1 : Int).toNat * 5 + 2, none⟩ = false := hfr10 2; have hf10_3 : w11.frozen? ⟨go10, (x4_1 : Int).toNat * 5 + 3, none⟩ = false := hfr10 3; have hf10_4 : w11.frozen? ⟨go10, (x4_1 : Int).toNat * 5 + 4, none⟩ = false := hfr10 4; clear hcl10 hcc10 hfr10 hM10; replace p10 := eq_true p10; replace q10 := eq_true q10; have HX12 := Aside0.mk (show Kd.R k90 90 w11 w.heap.size (fun _ => True) (.slice (some ⟨go10, 0, none⟩) x3_1.length co10) x3_1 from (by (with_reducible repeat (first | apply Kd.R_alloc | apply Kd.R_drewN | apply Kd.R_drew)); exact HO_3.out)); obtain ⟨ce12, hcl12, hM12, hcc12, hfr12⟩ := Kd.R_elem HX12.out z90 (x4_1 : Int) (of_decide_eq_true (by first | (with_reducible assumption) | assumption)) (by have h_ : (x4_1 : Int) < ((x3_1.length : Int) : Int) := of_decide_eq_true (by first | (with_reducible assumption) | assumption); first | exact h_ | (have e_ := (Kd.R_reads' HO_3.out).1; omega) | simpa using h_); obtain rfl := k90_openM hM12; have HP12 := Kd.R_seg HX12.out (x4_1 : Int) (of_decide_eq_true (by first | (with_reducible assumption) | assumption)) (by have h_ : (x4_1 : Int) < ((x3_1.length : Int) : Int) := of_decide_eq_true (by first | (with_reducible assumption) | assumption); first | exact h_ | (have e_ := (Kd.R_reads' HO_3.out).1; omega) | simpa using h_) (seg := [.int .i64 t71005, .int .i64 t71006, .int .i64 t71007, .int .i64 t71008, .bool t71009]) (j := 0) hcl12 hcc12 (show 5 ≤ 5 from by decide) (x' := (⟨t71005, t71006, t71007, t71008, t71009⟩ : S90)) (k90_mkM _ _ _ (⟨t71005, t71006, t71007, t71008, t71009⟩ : S90) ) (fun _ hk => hk); have hx12_0 := hcc12 0 _ rfl; (try simp only [show (k90).sz = 5 from rfl, Nat.mul_one, Nat.add_zero] at hx12_0); have hf12_0 := hfr12 0; (try simp only [show (k90).sz = 5 from rfl, Nat.mul_one, Nat.add_zero] at hf12_0); have hx12_1 := hcc12 1 _ rfl; (try simp only [show (k90).sz = 5 from rfl, Nat.mul_one, Nat.add_zero] at hx12_1); have hf12_1 := hfr12 1; (try simp only [show (k90).sz = 5 from rfl, Nat.mul_one, Nat.add_zero] at hf12_1); have hx12_2 := hcc12 2 _ rfl; (try simp only [show (k90).sz = 5 from rfl, Nat.mul_one, Nat.add_zero] at hx12_2); have hf12_2 := hfr12 2; (try simp only [show (k90).sz = 5 from rfl, Nat.mul_one, Nat.add_zero] at hf12_2); have hx12_3 := hcc12 3 _ rfl; (try simp only [show (k90).sz = 5 from rfl, Nat.mul_one, Nat.add_zero] at hx12_3); have hf12_3 := hfr12 3; (try simp only [show (k90).sz = 5 from rfl, Nat.mul_one, Nat.add_zero] at hf12_3); have hx12_4 := hcc12 4 _ rfl; (try simp only [show (k90).sz = 5 from rfl, Nat.mul_one, Nat.add_zero] at hx12_4); have hf12_4 := hfr12 4; (try simp only [show (k90).sz = 5 from rfl, Nat.mul_one, Nat.add_zero] at hf12_4); clear hcl12 hcc12 hfr12 hM12) | ((with_reducible refine gate_store (t := 90) (p := 21) rfl ?_); refine store_event (t := 90) (p := 21) (v := ?vo_w13) (w1 := (((((w11.setCell ⟨go10, (x4_1 : Int).toNat * 5, none⟩ (.int .i64 t71005)).setCell ⟨go10, (x4_1 : Int).toNat * 5 + 1, none⟩ (.int .i64 t71006)).setCell ⟨go10, (x4_1 : Int).toNat * 5 + 2, none⟩ (.int .i64 t71007)).setCell ⟨go10, (x4_1 : Int).toNat * 5 + 3, none⟩ (.int .i64 t71008)).setCell ⟨go10, (x4_1 : Int).toNat * 5 + 4, none⟩ (.bool t71009))) ?hg ?ho ?hn ?hr ?_; (case ho => rfl); (case hg => rfl); (case hn => rfl); (case hr => first | (go_simp; done) | (go_simp; rfl)); intro w13 hw; have hg : w11.grownBy w13 (some go10) := (by rw [hw]; exact HP12.2); have hp_ : Kd.R k90 90 w13 w.heap.size (fun _ => True) (.slice (some ⟨go10, 0, none⟩) x3_1.length co10) y71010 := (by rw [hw, Ny71010.out]; exact HP12.1); clear HP12; have n0_ := Aside0.mk (hp_); have n1_ := Aside0.mk ((by rw [hw]; exact below_set (below_set (below_set (below_set (below_set (HB.out) GB10.out) GB10.out) GB10.out) GB10.out) GB10.out : Below w.heap.size w w13)); clear HO_3; clear HB; have HO_3 := n0_; have HB := n1_; clear n0_ n1_; clear hg hw hp_))
        go_roundg k1
        case measure => have := HK1.out; omega
        case rel => exact ⟨(y71010), (wrap64 (x4_1 + 1)), (by first | rfl | (simp; done) | (simp [*]; done)), H', ⟨by have := HK1.out; omega⟩, ⟨by (with_reducible repeat (first | apply Kd.R_alloc | apply Kd.R_drewN | apply Kd.R_drew)); exact HO_3.out⟩, ⟨by repeat (first | (with_reducible first | exact HB.out | apply below_alloc | apply pw_below_drewN | apply below_drew1) | exact HB.out)⟩⟩
       ·rw [if_neg c9] at H
        exact absurd H (by simp)
      ·rw [if_neg c7] at H
       exact absurd H (by simp)
     ·rw [if_neg c6] at H
      have c6b0 : decide (x4_1 < (l0.length : Int)) = false := decide_eq_false c6
      clear c6
      obtain rfl := Option.some.inj H
      go_wp2
      go_ret
      exact ⟨_, by first | rfl | (simp [errW_none, errW_some] <;> rfl) | (simp [*, errW_none, errW_some] <;> rfl), by (with_reducible repeat (first | apply Kd.R_alloc | apply Kd.R_drewN | apply Kd.R_drew)); exact HO_3.out, by repeat (first | (with_reducible first | exact HB.out | apply below_alloc | apply pw_below_drewN | apply below_drew1) | exact HB.out)⟩
  ·rw [if_neg c3] at H
   exact absurd H (by simp)
 ·rw [if_neg c2] at H
  exact absurd H (by simp)

end Go.Proofs.Ytodfnelilhjoeaa.Pr

namespace Go.Proofs.Ytodfnelilhjoeaa.Pr
open Go.RowKit Go.Proofs.YtodfnelilhjoeaaW.PrintWords Go.Proofs.YtodfnelilhjoeaaW.PrintLast Go.Proofs.YtodfnelilhjoeaaW.PrintMore
attribute [local go_sem] max2_int min2_int max_two min_two max_three min_three max_four min_four
set_option linter.unusedVariables false
set_option linter.unusedSimpArgs false

/-! ### laws_toShow: function 18 -/
def laws_toShow.f (k : Nat) (l0_0 : List (S127)) (l0_1 : List (S130)) (a0_2 : Int) : Option ((List (S116)) × (List (S90)) × Int) := (laws_toNodeS.f k l0_0).bind fun t18004 => ((laws_toTieS.f k l0_1).bind fun t18007 => (some (t18004, t18007, a0_2)))
set_option maxHeartbeats 8000000 in
set_option maxRecDepth 100000 in
theorem laws_toShow.calls (k : Nat) (A0_0 : Option Addr) (c0_0 : Nat) (l0_0 : List (S127)) (A0_1 : Option Addr) (c0_1 : Nat) (l0_1 : List (S130)) (a0_2 : Int) (r1 : List (S116)) (r2 : List (S90)) (r3 : Int) (w : World) (hr0_0 : Kd.C k127 w A0_0 l0_0.length l0_0) (hc0_0 : l0_0.length ≤ c0_0) (hr0_1 : Kd.C k130 w A0_1 l0_1.length l0_1) (hc0_1 : l0_1.length ≤ c0_1) (h : laws_toShow.f k l0_0 l0_1 a0_2 = some (r1, r2, r3)) :
  Calls Try.prog 18 #[.agg #[.slice A0_0 l0_0.length c0_0, .slice A0_1 l0_1.length c0_1, .int .i64 a0_2]] w fun e w' => ∃ v0_ v1_ : Value, e = .returned (.agg #[v0_, v1_, .int .i64 r3]) ∧ Kd.S k116 116 w' w.heap.size (fun _ => True) v0_ r1 ∧ Kd.R k90 90 w' w.heap.size (fun _ => True) v1_ r2 ∧ Below w.heap.size w w' := by
 have hu25 := Try.underlying25
 have hu35 := Try.underlying35
 have HR0_0 := Aside0.mk hr0_0; have HC0_0 := Aside0.mk hc0_0; clear hr0_0 hc0_0; have HR0_1 := Aside0.mk hr0_1; have HC0_1 := Aside0.mk hc0_1; clear hr0_1 hc0_1
 have HB := Aside0.mk (Below.refl w.heap.size w)
 have H : ((laws_toNodeS.f k l0_0).bind fun t18004 => ((laws_toTieS.f k l0_1).bind fun t18007 => (some (t18004, t18007, a0_2)))) = some (r1, r2, r3) := h
 clear h
 replace H := Option.bind_eq_some_iff.mp H
 obtain ⟨t18004, A20, H⟩ := H
 replace H : ((laws_toTieS.f k l0_1).bind fun t18007 => (some (t18004, t18007, a0_2))) = some (r1, r2, r3) := H
 have A2 := Aside0.mk A20; clear A20
 replace H := Option.bind_eq_some_iff.mp H
 obtain ⟨t18007, A30, H⟩ := H
 replace H : (some (t18004, t18007, a0_2)) = some (r1, r2, r3) := H
 have A3 := Aside0.mk A30; clear A30
 simp only [Option.some.injEq, Prod.mk.injEq] at H
 obtain ⟨rfl, rfl, rfl⟩ := H
 go_enter Try.func18, Try.ntmps18
 go_wp2_with (first | ((with_reducible refine gate_dst (N := 1) rfl ?_); refine box_event ?hg (N := 1) ?hd (cs := #[.slice A0_0 l0_0.length c0_0, .slice A0_1 l0_1.length c0_1, .int .i64 a0_2]) (t := 25) ?hr ?_; (case hd => rfl); (case hg => rfl); (case hr => first | (go_simp; done) | (go_simp; rfl)); intro gb18001 hg w4 hbox hb; have n0_ := Aside0.mk (below_step (by repeat (first | (with_reducible first | exact HB.out | apply below_alloc | apply pw_below_drewN | apply below_drew1) | exact HB.out)) hb); have n1_ := Aside0.mk (hbox); have n2_ := Aside0.mk ((by rw [hg]; exact (below_size (by repeat (first | (with_reducible first | exact HB.out | apply below_alloc | apply pw_below_drewN | apply below_drew1) | exact HB.out))) : w.heap.size ≤ gb18001)); have n3_ := Aside0.mk ((by rw [hg]; exact (below_size (by repeat (first | (with_reducible first | exact HB.out | apply below_alloc | apply pw_below_drewN | apply below_drew1) | exact HB.out))) : w.heap.size ≤ gb18001)); clear HB; have HB := n0_; have BK18001 := n1_; have GW18001 := n2_; have GE18001 := n3_; clear n0_ n1_ n2_ n3_; clear hb hbox hg) | ((with_reducible refine gate_dst (N := 2) rfl ?_); refine box_event ?hg (N := 2) ?hd (cs := #[.slice none 0 0, .slice none 0 0, .int .i64 0]) (t := 35) ?hr ?_; (case hd => rfl); (case hg => rfl); (case hr => first | (go_simp; done) | (go_simp; rfl)); intro gb18002 hg w5 hbox hb; have n0_ := Aside0.mk (blk_below (g := gb18001) (o := .cells #[.slice A0_0 l0_0.length c0_0, .slice A0_1 l0_1.length c0_1, .int .i64 a0_2] 25 (0, 0)) (by (with_reducible repeat (first | refine blk_drewN ?_ _ | refine blk_drew ?_ | refine blk_alloc ?_ _)); exact BK18001.out) hb); have n1_ := Aside0.mk (below_step (by repeat (first | (with_reducible first | exact HB.out | apply below_alloc | apply pw_below_drewN | apply below_drew1 | refine below_set ?_ GE18001.out) | exact HB.out)) hb); have n2_ := Aside0.mk (hbox); have n3_ := Aside0.mk ((by rw [hg]; exact (below_size (by repeat (first | (with_reducible first | exact HB.out | apply below_alloc | apply pw_below_drewN | apply below_drew1 | refine below_set ?_ GE18001.out) | exact HB.out))) : w.heap.size ≤ gb18002)); have n4_ := Aside0.mk ((by rw [hg]; exact (below_size (by repeat (first | (with_reducible first | exact HB.out | apply below_alloc | apply pw_below_drewN | apply below_drew1 | refine below_set ?_ GE18001.out) | exact HB.out))) : w.heap.size ≤ gb18002)); have n5_ := Aside0.mk ((by rw [hg]; exact Nat.ne_of_lt (blk_lt (g := gb18001) (o := .cells #[.slice A0_0 l0_0.length c0_0, .slice A0_1 l0_1.length c0_1, .int .i64 a0_2] 25 (0, 0)) (by (with_reducible repeat (first | refine blk_drewN ?_ _ | refine blk_drew ?_ | refine blk_alloc ?_ _)); exact BK18001.out)) : gb18001 ≠ gb18002)); have n6_ := Aside0.mk ((by rw [hg]; exact Nat.ne_of_gt (blk_lt (g := gb18001) (o := .cells #[.slice A0_0 l0_0.length c0_0, .slice A0_1 l0_1.length c0_1, .int .i64 a0_2] 25 (0, 0)) (by (with_reducible repeat (first | refine blk_drewN ?_ _ | refine blk_drew ?_ | refine blk_alloc ?_ _)); exact BK18001.out)) : gb18002 ≠ gb18001)); clear BK18001; clear HB; have BK18001 := n0_; have HB := n1_; have BK18002 := n2_; have GW18002 := n3_; have GE18002 := n4_; have NB18001_18002 := n5_; have NB18002_18001 := n6_; clear n0_ n1_ n2_ n3_ n4_ n5_ n6_; clear hb hbox hg) | ((with_reducible refine gate_dst (N := 3) rfl ?_); refine box_event ?hg (N := 3) ?hd (cs := #[.slice none 0 0, .slice none 0 0, .int .i64 0]) (t := 35) ?hr ?_; (case hd => rfl); (case hg => rfl); (case hr => first | (go_simp; done) | (go_simp; rfl)); intro gb18003 hg w6 hbox hb; have n0_ := Aside0.mk (blk_below (g := gb18001) (o := .cells #[.slice A0_0 l0_0.length c0_0, .slice A0_1 l0_1.length c0_1, .int .i64 a0_2] 25 (0, 0)) (by (with_reducible repeat (first | refine blk_drewN ?_ _ | refine blk_drew ?_ | refine blk_alloc ?_ _)); exact BK18001.out) hb); have n1_ := Aside0.mk (blk_below (g := gb18002) (o := .cells #[.slice none 0 0, .slice none 0 0, .int .i64 0] 35 (0, 0)) (by (with_reducible repeat (first | refine blk_drewN ?_ _ | refine blk_drew ?_ | refine blk_alloc ?_ _)); exact BK18002.out) hb); have n2_ := Aside0.mk (below_step (by repeat (first | (with_reducible first | exact HB.out | apply below_alloc | apply pw_below_drewN | apply below_drew1 | refine below_set ?_ GE18001.out | refine below_set ?_ GE18002.out) | exact HB.out)) hb); have n3_ := Aside0.mk (hbox); have n4_ := Aside0.mk ((by rw [hg]; exact (below_size (by repeat (first | (with_reducible first | exact HB.out | apply below_alloc | apply pw_below_drewN | apply below_drew1 | refine below_set ?_ GE18001.out | refine below_set ?_ GE18002.out) | exact HB.out))) : w.heap.size ≤ gb18003)); have n5_ := Aside0.mk ((by rw [hg]; exact (below_size (by repeat (first | (with_reducible first | exact HB.out | apply below_alloc | apply pw_below_drewN | apply below_drew1 | refine below_set ?_ GE18001.out | refine below_set ?_ GE18002.out) | exact HB.out))) : w.heap.size ≤ gb18003)); have n6_ := Aside0.mk ((by rw [hg]; exact Nat.ne_of_lt (blk_lt (g := gb18001) (o := .cells #[.slice A0_0 l0_0.length c0_0, .slice A0_1 l0_1.length c0_1, .int .i64 a0_2] 25 (0, 0)) (by (with_reducible repeat (first | refine blk_drewN ?_ _ | refine blk_drew ?_ | refine blk_alloc ?_ _)); exact BK18001.out)) : gb18001 ≠ gb18003)); have n7_ := Aside0.mk ((by rw [hg]; exact Nat.ne_of_gt (blk_lt (g := gb18001) (o := .cells #[.slice A0_0 l0_0.length c0_0, .slice A0_1 l0_1.length c0_1, .int .i64 a0_2] 25 (0, 0)) (by (with_reducible repeat (first | refine blk_drewN ?_ _ | refine blk_drew ?_ | refine blk_alloc ?_ _)); exact BK18001.out)) : gb18003 ≠ gb18001)); have n8_ := Aside0.mk ((by rw [hg]; exact Nat.ne_of_lt (blk_lt (g := gb18002) (o := .cells #[.slice none 0 0, .slice none 0 0, .int .i64 0] 35 (0, 0)) (by (with_reducible repeat (first | refine blk_drewN ?_ _ | refine blk_drew ?_ | refine blk_alloc ?_ _)); exact BK18002.out)) : gb18002 ≠ gb18003)); have n9_ := Aside0.mk ((by rw [hg]; exact Nat.ne_of_gt (blk_lt (g := gb18002) (o := .cells #[.slice none 0 0, .slice none 0 0, .int .i64 0] 35 (0, 0)) (by (with_reducible repeat (first | refine blk_drewN ?_ _ | refine blk_drew ?_ | refine blk_alloc ?_ _)); exact BK18002.out)) : gb18003 ≠ gb18002)); clear BK18001; clear BK18002; clear HB; have BK18001 := n0_; have BK18002 := n1_; have HB := n2_; have BK18003 := n3_; have GW18003 := n4_; have GE18003 := n5_; have NB18001_18003 := n6_; have NB18003_18001 := n7_; have NB18002_18003 := n8_; have NB18003_18002 := n9_; clear n0_ n1_ n2_ n3_ n4_ n5_ n6_ n7_ n8_ n9_; clear hb hbox hg; have hnb7 := NB18001_18002.out; have hnc7 := NB18002_18001.out; have hnb8 := NB18001_18003.out; have hnc8 := NB18003_18001.out; have hcz9_0 : w6.cell? ⟨gb18001, 0, none⟩ = some (.slice A0_0 l0_0.length c0_0) := (blk_cell BK18001.out 0).trans rfl; have hcz9_1 : w6.cell? ⟨gb18001, 1, none⟩ = some (.slice A0_1 l0_1.length c0_1) := (blk_cell BK18001.out 1).trans rfl; have hcz9_2 : w6.cell? ⟨gb18001, 2, none⟩ = some (.int .i64 a0_2) := (blk_cell BK18001.out 2).trans rfl; have hfz9_0 := blk_frozen BK18001.out 0; have hfz9_1 := blk_frozen BK18001.out 1; have hfz9_2 := blk_frozen BK18001.out 2) | ((with_reducible refine gate_callee (f := 70) rfl ?_); refine goesL_ (some 6) rfl rfl Try.func70 (by kernel_rfl) rfl #[.slice A0_0 l0_0.length c0_0] rfl (by (try simp only [List.map_toArray, List.map_cons, List.map_nil]); first | done | rfl | (simp only [List.length_drop, List.length_take]; rfl)) ?_; (with_reducible refine (laws_toNodeS.calls k _ _ l0_0 t18004 _ ?side1 ?side2 A2.out).mono ?_); (case side1 => repeat (first | exact (Kd.C_below HR0_0.out HB.out) | (with_reducible refine Kd.C_alloc ?_ _) | (with_reducible refine Kd.C_drewN ?_ _) | (with_reducible refine Kd.C_drew ?_))); (case side2 => exact HC0_0.out); rintro e w10 ⟨v18005, rfl, ho0, hb⟩; refine ⟨_, rfl, ?_⟩; have n0_ := Aside0.mk (Kd.S_lower ho0 (below_size (by repeat (first | (with_reducible first | exact HB.out | apply below_alloc | apply pw_below_drewN | apply below_drew1 | refine below_set ?_ GE18001.out | refine below_set ?_ GE18002.out | refine below_set ?_ GE18003.out) | exact HB.out)))); have n1_ := Aside0.mk (blk_below (g := gb18001) (o := .cells #[.slice A0_0 l0_0.length c0_0, .slice A0_1 l0_1.length c0_1, .int .i64 a0_2] 25 (0, 0)) (by (with_reducible repeat (first | refine blk_drewN ?_ _ | refine blk_drew ?_ | refine blk_alloc ?_ _)); exact BK18001.out) hb); have n2_ := Aside0.mk (blk_below (g := gb18002) (o := .cells #[.slice none 0 0, .slice none 0 0, .int .i64 0] 35 (0, 0)) (by (with_reducible repeat (first | refine blk_drewN ?_ _ | refine blk_drew ?_ | refine blk_alloc ?_ _)); exact BK18002.out) hb); have n3_ := Aside0.mk (blk_below (g := gb18003) (o := .cells #[.slice none 0 0, .slice none 0 0, .int .i64 0] 35 (0, 0)) (by (with_reducible repeat (first | refine blk_drewN ?_ _ | refine blk_drew ?_ | refine blk_alloc ?_ _)); exact BK18003.out) hb); have n4_ := Aside0.mk (below_step (by repeat (first | (with_reducible first | exact HB.out | apply below_alloc | apply pw_below_drewN | apply below_drew1 | refine below_set ?_ GE18001.out | refine below_set ?_ GE18002.out | refine below_set ?_ GE18003.out) | exact HB.out)) hb); clear BK18001; clear BK18002; clear BK18003; clear HB; have HO18006 := n0_; have BK18001 := n1_; have BK18002 := n2_; have BK18003 := n3_; have HB := n4_; clear n0_ n1_ n2_ n3_ n4_; (try clear hb); (try clear hb2); (try clear hk); (try clear hi); (try clear ho0); obtain ⟨Ao11, co11, eo11⟩ := Kd.S_slice HO18006.out; subst eo11; have hnb12 := NB18003_18002.out; have hnc12 := NB18002_18003.out; have hcz13_0 : w10.cell? ⟨gb18003, 0, none⟩ = some (.slice none 0 0) := (blk_cell BK18003.out 0).trans rfl; have hcz13_1 : w10.cell? ⟨gb18003, 1, none⟩ = some (.slice none 0 0) := (blk_cell BK18003.out 1).trans rfl; have hcz13_2 : w10.cell? ⟨gb18003, 2, none⟩ = some (.int .i64 0) := (blk_cell BK18003.out 2).trans rfl; have hfz13_0 := blk_frozen BK18003.out 0; have hfz13_1 := blk_frozen BK18003.out 1; have hfz13_2 := blk_frozen BK18003.out 2; have hcz14_0 : w10.cell? ⟨gb18001, 0, none⟩ = some (.slice A0_0 l0_0.length c0_0) := (blk_cell BK18001.out 0).trans rfl; have hcz14_1 : w10.cell? ⟨gb18001, 1, none⟩ = some (.slice A0_1 l0_1.length c0_1) := (blk_cell BK18001.out 1).trans rfl; have hcz14_2 : w10.cell? ⟨gb18001, 2, none⟩ = some (.int .i64 a0_2) := (blk_cell BK18001.out 2).trans rfl; have hfz14_0 := blk_frozen BK18001.out 0; have hfz14_1 := blk_frozen BK18001.out 1; have hfz14_2 := blk_frozen BK18001.out 2) | ((with_reducible refine gate_callee (f := 71) rfl ?_); refine goesL_ (some 10) rfl rfl Try.func71 (by kernel_rfl) rfl #[.slice A0_1 l0_1.length c0_1] rfl (by (try simp only [List.map_toArray, List.map_cons, List.map_nil]); first | done | rfl | (simp only [List.length_drop, List.length_take]; rfl)) ?_; (with_reducible refine (laws_toTieS.calls k _ _ l0_1 t18007 _ ?side1 ?side2 A3.out).mono ?_); (case side1 => exact Kd.C_below HR0_1.out (by repeat (first | (with_reducible first | exact HB.out | apply below_alloc | apply pw_below_drewN | apply below_drew1 | refine below_set ?_ GE18001.out | refine below_set ?_ GE18002.out | refine below_set ?_ GE18003.out) | exact HB.out))); (case side2 => exact HC0_1.out); rintro e w15 ⟨v18008, rfl, ho0, hb⟩; refine ⟨_, rfl, ?_⟩; have n0_ := Aside0.mk (Kd.S_below (by (with_reducible repeat (first | apply Kd.S_alloc | apply Kd.S_drewN | apply Kd.S_drew)); exact (Kd.S_mono (Kd.S_far (p := ⟨gb18003, 0, none⟩) (Kd.S_types HO18006.out BK18003.out (by decide)) (fun _ hk => hk.2) (.slice Ao11 t18004.length co11)) (fun _ h_ => h_.1))) hb); have n1_ := Aside0.mk (Kd.R_lower ho0 (below_size (by repeat (first | (with_reducible first | exact HB.out | apply below_alloc | apply pw_below_drewN | apply below_drew1 | refine below_set ?_ GE18001.out | refine below_set ?_ GE18002.out | refine below_set ?_ GE18003.out) | exact HB.out)))); have n2_ := Aside0.mk (blk_below (g := gb18001) (o := .cells #[.slice A0_0 l0_0.length c0_0, .slice A0_1 l0_1.length c0_1, .int .i64 a0_2] 25 (0, 0)) (by (with_reducible repeat (first | refine blk_drewN ?_ _ | refine blk_drew ?_ | refine blk_alloc ?_ _)); refine blk_far ?_ NB18001_18003.out _; (with_reducible repeat (first | refine blk_drewN ?_ _ | refine blk_drew ?_ | refine blk_alloc ?_ _)); exact BK18001.out) hb); have n3_ := Aside0.mk (blk_below (g := gb18002) (o := .cells #[.slice none 0 0, .slice none 0 0, .int .i64 0] 35 (0, 0)) (by (with_reducible repeat (first | refine blk_drewN ?_ _ | refine blk_drew ?_ | refine blk_alloc ?_ _)); refine blk_far ?_ NB18002_18003.out _; (with_reducible repeat (first | refine blk_drewN ?_ _ | refine blk_drew ?_ | refine blk_alloc ?_ _)); exact BK18002.out) hb); have n4_ := Aside0.mk (blk_below (g := gb18003) (o := .cells #[.slice Ao11 t18004.length co11, .slice none 0 0, .int .i64 0] 35 (0, 0)) (by (with_reducible repeat (first | refine blk_drewN ?_ _ | refine blk_drew ?_ | refine blk_alloc ?_ _)); refine blk_put (cs := #[.slice none 0 0, .slice none 0 0, .int .i64 0]) ?_ 0 _ rfl; (with_reducible repeat (first | refine blk_drewN ?_ _ | refine blk_drew ?_ | refine blk_alloc ?_ _)); exact BK18003.out) hb); have n5_ := Aside0.mk (below_step (by repeat (first | (with_reducible first | exact HB.out | apply below_alloc | apply pw_below_drewN | apply below_drew1 | refine below_set ?_ GE18001.out | refine below_set ?_ GE18002.out | refine below_set ?_ GE18003.out) | exact HB.out)) hb); clear HO18006; clear BK18001; clear BK18002; clear BK18003; clear HB; have HO18006 := n0_; have HO18009 := n1_; have BK18001 := n2_; have BK18002 := n3_; have BK18003 := n4_; have HB := n5_; clear n0_ n1_ n2_ n3_ n4_ n5_; (try clear hb); (try clear hb2); (try clear hk); (try clear hi); (try clear ho0); obtain ⟨Ao16, co16, eo16⟩ := Kd.R_slice HO18009.out; subst eo16; have hcz17_0 : w15.cell? ⟨gb18003, 0, none⟩ = some (.slice Ao11 t18004.length co11) := (blk_cell BK18003.out 0).trans rfl; have hcz17_1 : w15.cell? ⟨gb18003, 1, none⟩ = some (.slice none 0 0) := (blk_cell BK18003.out 1).trans rfl; have hcz17_2 : w15.cell? ⟨gb18003, 2, none⟩ = some (.int .i64 0) := (blk_cell BK18003.out 2).trans rfl; have hfz17_0 := blk_frozen BK18003.out 0; have hfz17_1 := blk_frozen BK18003.out 1; have hfz17_2 := blk_frozen BK18003.out 2; have hcz18_0 : w15.cell? ⟨gb18001, 0, none⟩ = some (.slice A0_0 l0_0.length c0_0) := (blk_cell BK18001.out 0).trans rfl; have hcz18_1 : w15.cell? ⟨gb18001, 1, none⟩ = some (.slice A0_1 l0_1.length c0_1) := (blk_cell BK18001.out 1).trans rfl; have hcz18_2 : w15.cell? ⟨gb18001, 2, none⟩ = some (.int .i64 a0_2) := (blk_cell BK18001.out 2).trans rfl; have hfz18_0 := blk_frozen BK18001.out 0; have hfz18_1 := blk_frozen BK18001.out 1; have hfz18_2 := blk_frozen BK18001.out 2; have hcz19_0 : w15.cell? ⟨gb18002, 0, none⟩ = some (.slice none 0 0) := (blk_cell BK18002.out 0).trans rfl; have hcz19_1 : w15.cell? ⟨gb18002, 1, none⟩ = some (.slice none 0 0) := (blk_cell BK18002.out 1).trans rfl; have hcz19_2 : w15.cell? ⟨gb18002, 2, none⟩ = some (.int .i64 0) := (blk_cell BK18002.out 2).trans rfl; have hfz19_0 := blk_frozen BK18002.out 0; have hfz19_1 := blk_frozen BK18002.out 1; have hfz19_2 := blk_frozen BK18002.out 2))
 refine bodyPost_ret (results_cell_row rfl _ _ gb18002 35 #[.slice Ao11 t18004.length co11, .slice Ao16 t18007.length co16, .int .i64 a0_2] (0, 0) _ rfl (by (with_reducible repeat (first | refine blk_drewN ?_ _ | refine blk_drew ?_ | refine blk_alloc ?_ _)); refine blk_put (cs := #[.slice Ao11 t18004.length co11, .slice Ao16 t18007.length co16, .int .i64 0]) ?_ 2 _ rfl; (with_reducible repeat (first | refine blk_drewN ?_ _ | refine blk_drew ?_ | refine blk_alloc ?_ _)); refine blk_put (cs := #[.slice Ao11 t18004.length co11, .slice none 0 0, .int .i64 0]) ?_ 1 _ rfl; (with_reducible repeat (first | refine blk_drewN ?_ _ | refine blk_drew ?_ | refine blk_alloc ?_ _)); refine blk_put (cs := #[.slice none 0 0, .slice none 0 0, .int .i64 0]) ?_ 0 _ rfl; (with_reducible repeat (first | refine blk_drewN ?_ _ | refine blk_drew ?_ | refine blk_alloc ?_ _)); refine blk_far ?_ NB18002_18003.out _; (with_reducible repeat (first | refine blk_drewN ?_ _ | refine blk_drew ?_ | refine blk_alloc ?_ _)); refine blk_far ?_ NB18002_18003.out _; (with_reducible repeat (first | refine blk_drewN ?_ _ | refine blk_drew ?_ | refine blk_alloc ?_ _)); exact BK18002.out) Try.underlying35 rfl (by kernel_rfl)) rfl ?_
 exact ⟨_, _, by first | rfl | (simp [errW_none, errW_some] <;> rfl) | (simp [*, errW_none, errW_some] <;> rfl), by (with_reducible repeat (first | apply Kd.S_alloc | apply Kd.S_drewN | apply Kd.S_drew)); exact Kd.S_mono (Kd.S_far (p := ⟨gb18002, 2, none⟩) (Kd.S_far (p := ⟨gb18002, 1, none⟩) (Kd.S_far (p := ⟨gb18002, 0, none⟩) (Kd.S_far (p := ⟨gb18003, 2, none⟩) (Kd.S_far (p := ⟨gb18003, 1, none⟩) (Kd.S_types (Kd.S_types HO18006.out BK18003.out (by decide)) BK18002.out (by decide)) (fun _ hk => hk.1.2) (.slice Ao16 t18007.length co16)) (fun _ hk => hk.1.2) (.int .i64 a0_2)) (fun _ hk => hk.2) (.slice Ao11 t18004.length co11)) (fun _ hk => hk.2) (.slice Ao16 t18007.length co16)) (fun _ hk => hk.2) (.int .i64 a0_2)) (fun _ hk => trivial), by (with_reducible repeat (first | apply Kd.R_alloc | apply Kd.R_drewN | apply Kd.R_drew)); exact Kd.R_mono (Kd.R_far (p := ⟨gb18002, 2, none⟩) (Kd.R_far (p := ⟨gb18002, 1, none⟩) (Kd.R_far (p := ⟨gb18002, 0, none⟩) (Kd.R_far (p := ⟨gb18003, 2, none⟩) (Kd.R_far (p := ⟨gb18003, 1, none⟩) (Kd.R_types (Kd.R_types HO18009.out BK18003.out (by decide)) BK18002.out (by decide)) (fun _ hk => hk.1.2) (.slice Ao16 t18007.length co16)) (fun _ hk => hk.1.2) (.int .i64 a0_2)) (fun _ hk => hk.2) (.slice Ao11 t18004.length co11)) (fun _ hk => hk.2) (.slice Ao16 t18007.length co16)) (fun _ hk => hk.2) (.int .i64 a0_2)) (fun _ hk => trivial), by repeat (first | (with_reducible first | exact HB.out | apply below_alloc | apply pw_below_drewN | apply below_drew1 | refine below_set ?_ GE18001.out | refine below_set ?_ GE18002.out | refine below_set ?_ GE18003.out) | exact HB.out)⟩

end Go.Proofs.Ytodfnelilhjoeaa.Pr

namespace Go.Proofs.Ytodfnelilhjoeaa.Pr
open Go.RowKit Go.Proofs.YtodfnelilhjoeaaW.PrintWords Go.Proofs.YtodfnelilhjoeaaW.PrintLast Go.Proofs.YtodfnelilhjoeaaW.PrintMore
attribute [local go_sem] max2_int min2_int max_two min_two max_three min_three max_four min_four
set_option linter.unusedVariables false
set_option linter.unusedSimpArgs false

theorem laws_toShow.c (k : Nat) (A0_0 : Option Addr) (c0_0 : Nat) (l0_0 : List (S127)) (A0_1 : Option Addr) (c0_1 : Nat) (l0_1 : List (S130)) (a0_2 : Int) (r1 : List (S116)) (r2 : List (S90)) (r3 : Int) (w : World) (hr0_0 : Kd.C k127 w A0_0 l0_0.length l0_0) (hc0_0 : l0_0.length ≤ c0_0) (hr0_1 : Kd.C k130 w A0_1 l0_1.length l0_1) (hc0_1 : l0_1.length ≤ c0_1) (h : laws_toShow.f k l0_0 l0_1 a0_2 = some (r1, r2, r3)) :
  Calls Try.prog 18 #[.agg #[.slice A0_0 l0_0.length c0_0, .slice A0_1 l0_1.length c0_1, .int .i64 a0_2]] w fun e w' => ∃ A0_ c0_ A1_ c1_, e = .returned (.agg #[.slice A0_ r1.length c0_, .slice A1_ r2.length c1_, .int .i64 r3]) ∧ Aside0 (r1.length ≤ c0_ ∧ Kd.C k116 w' A0_ r1.length r1) ∧ Aside0 (r2.length ≤ c1_ ∧ Kd.C k90 w' A1_ r2.length r2) ∧ Below w.heap.size w w' :=
 (laws_toShow.calls k A0_0 c0_0 l0_0 A0_1 c0_1 l0_1 a0_2 r1 r2 r3 w hr0_0 hc0_0 hr0_1 hc0_1 h).mono fun e w' ⟨v0_, v1_, he, q0_, q1_, hb⟩ => by
  obtain ⟨A0_, c0_, rfl, g0_⟩ := Kd.S_reads q0_
  obtain ⟨A1_, c1_, rfl, g1_⟩ := Kd.R_reads q1_
  exact ⟨A0_, c0_, A1_, c1_, he, ⟨g0_⟩, ⟨g1_⟩, hb⟩

end Go.Proofs.Ytodfnelilhjoeaa.Pr

namespace Go.Proofs.Ytodfnelilhjoeaa.Pr
open Go.RowKit Go.Proofs.YtodfnelilhjoeaaW.PrintWords Go.Proofs.YtodfnelilhjoeaaW.PrintLast Go.Proofs.YtodfnelilhjoeaaW.PrintMore
attribute [local go_sem] max2_int min2_int max_two min_two max_three min_three max_four min_four
set_option linter.unusedVariables false
set_option linter.unusedSimpArgs false

/-! ### laws_toState: function 40 -/
def laws_toState.f (k : Nat) (a0_0 : Int) (l0_1 : List Int) (l0_2 : List Int) : Option (Int × List Int × List Int) := (laws_toIntS.f k l0_1).bind fun t40004 => ((laws_toIntS.f k l0_2).bind fun t40007 => (some (a0_0, t40004, t40007)))
set_option maxHeartbeats 8000000 in
set_option maxRecDepth 100000 in
theorem laws_toState.calls (k : Nat) (a0_0 : Int) (A0_1 : Option Addr) (c0_1 : Nat) (l0_1 : List Int) (A0_2 : Option Addr) (c0_2 : Nat) (l0_2 : List Int) (r1 : Int) (r2 : List Int) (r3 : List Int) (w : World) (hr0_1 : Kd.C (Kd.int .i64) w A0_1 l0_1.length l0_1) (hc0_1 : l0_1.length ≤ c0_1) (hr0_2 : Kd.C (Kd.int .i64) w A0_2 l0_2.length l0_2) (hc0_2 : l0_2.length ≤ c0_2) (h : laws_toState.f k a0_0 l0_1 l0_2 = some (r1, r2, r3)) :
  Calls Try.prog 40 #[.agg #[.int .i64 a0_0, .slice A0_1 l0_1.length c0_1, .slice A0_2 l0_2.length c0_2]] w fun e w' => ∃ v1_ v2_ : Value, e = .returned (.agg #[.int .i64 r1, v1_, v2_]) ∧ Kd.R (Kd.int .i64) 3 w' w.heap.size (fun k_ => some k_ ≠ (v2_ : Value).ownBlock) v1_ r2 ∧ Kd.R (Kd.int .i64) 3 w' w.heap.size (fun k_ => some k_ ≠ (v1_ : Value).ownBlock) v2_ r3 ∧ Below w.heap.size w w' := by
 have hu63 := Try.underlying63
 have hu66 := Try.underlying66
 have HR0_1 := Aside0.mk hr0_1; have HC0_1 := Aside0.mk hc0_1; clear hr0_1 hc0_1; have HR0_2 := Aside0.mk hr0_2; have HC0_2 := Aside0.mk hc0_2; clear hr0_2 hc0_2
 have HB := Aside0.mk (Below.refl w.heap.size w)
 have H : ((laws_toIntS.f k l0_1).bind fun t40004 => ((laws_toIntS.f k l0_2).bind fun t40007 => (some (a0_0, t40004, t40007)))) = some (r1, r2, r3) := h
 clear h
 replace H := Option.bind_eq_some_iff.mp H
 obtain ⟨t40004, A20, H⟩ := H
 replace H : ((laws_toIntS.f k l0_2).bind fun t40007 => (some (a0_0, t40004, t40007))) = some (r1, r2, r3) := H
 have A2 := Aside0.mk A20; clear A20
 replace H := Option.bind_eq_some_iff.mp H
 obtain ⟨t40007, A30, H⟩ := H
 replace H : (some (a0_0, t40004, t40007)) = some (r1, r2, r3) := H
 have A3 := Aside0.mk A30; clear A30
 simp only [Option.some.injEq, Prod.mk.injEq] at H
 obtain ⟨rfl, rfl, rfl⟩ := H
 go_enter Try.func40, Try.ntmps40
 go_wp2_with (first | ((with_reducible refine gate_dst (N := 1) rfl ?_); refine box_event ?hg (N := 1) ?hd (cs := #[.int .i64 a0_0, .slice A0_1 l0_1.length c0_1, .slice A0_2 l0_2.length c0_2]) (t := 63) ?hr ?_; (case hd => rfl); (case hg => rfl); (case hr => first | (go_simp; done) | (go_simp; rfl)); intro gb40001 hg w4 hbox hb; have n0_ := Aside0.mk (below_step (by repeat (first | (with_reducible first | exact HB.out | apply below_alloc | apply pw_below_drewN | apply below_drew1) | exact HB.out)) hb); have n1_ := Aside0.mk (hbox); have n2_ := Aside0.mk ((by rw [hg]; exact (below_size (by repeat (first | (with_reducible first | exact HB.out | apply below_alloc | apply pw_below_drewN | apply below_drew1) | exact HB.out))) : w.heap.size ≤ gb40001)); have n3_ := Aside0.mk ((by rw [hg]; exact (below_size (by repeat (first | (with_reducible first | exact HB.out | apply below_alloc | apply pw_below_drewN | apply below_drew1) | exact HB.out))) : w.heap.size ≤ gb40001)); clear HB; have HB := n0_; have BK40001 := n1_; have GW40001 := n2_; have GE40001 := n3_; clear n0_ n1_ n2_ n3_; clear hb hbox hg) | ((with_reducible refine gate_dst (N := 2) rfl ?_); refine box_event ?hg (N := 2) ?hd (cs := #[.int .i64 0, .slice none 0 0, .slice none 0 0]) (t := 66) ?hr ?_; (case hd => rfl); (case hg => rfl); (case hr => first | (go_simp; done) | (go_simp; rfl)); intro gb40002 hg w5 hbox hb; have n0_ := Aside0.mk (blk_below (g := gb40001) (o := .cells #[.int .i64 a0_0, .slice A0_1 l0_1.length c0_1, .slice A0_2 l0_2.length c0_2] 63 (0, 0)) (by (with_reducible repeat (first | refine blk_drewN ?_ _ | refine blk_drew ?_ | refine blk_alloc ?_ _)); exact BK40001.out) hb); have n1_ := Aside0.mk (below_step (by repeat (first | (with_reducible first | exact HB.out | apply below_alloc | apply pw_below_drewN | apply below_drew1 | refine below_set ?_ GE40001.out) | exact HB.out)) hb); have n2_ := Aside0.mk (hbox); have n3_ := Aside0.mk ((by rw [hg]; exact (below_size (by repeat (first | (with_reducible first | exact HB.out | apply below_alloc | apply pw_below_drewN | apply below_drew1 | refine below_set ?_ GE40001.out) | exact HB.out))) : w.heap.size ≤ gb40002)); have n4_ := Aside0.mk ((by rw [hg]; exact (below_size (by repeat (first | (with_reducible first | exact HB.out | apply below_alloc | apply pw_below_drewN | apply below_drew1 | refine below_set ?_ GE40001.out) | exact HB.out))) : w.heap.size ≤ gb40002)); have n5_ := Aside0.mk ((by rw [hg]; exact Nat.ne_of_lt (blk_lt (g := gb40001) (o := .cells #[.int .i64 a0_0, .slice A0_1 l0_1.length c0_1, .slice A0_2 l0_2.length c0_2] 63 (0, 0)) (by (with_reducible repeat (first | refine blk_drewN ?_ _ | refine blk_drew ?_ | refine blk_alloc ?_ _)); exact BK40001.out)) : gb40001 ≠ gb40002)); have n6_ := Aside0.mk ((by rw [hg]; exact Nat.ne_of_gt (blk_lt (g := gb40001) (o := .cells #[.int .i64 a0_0, .slice A0_1 l0_1.length c0_1, .slice A0_2 l0_2.length c0_2] 63 (0, 0)) (by (with_reducible repeat (first | refine blk_drewN ?_ _ | refine blk_drew ?_ | refine blk_alloc ?_ _)); exact BK40001.out)) : gb40002 ≠ gb40001)); clear BK40001; clear HB; have BK40001 := n0_; have HB := n1_; have BK40002 := n2_; have GW40002 := n3_; have GE40002 := n4_; have NB40001_40002 := n5_; have NB40002_40001 := n6_; clear n0_ n1_ n2_ n3_ n4_ n5_ n6_; clear hb hbox hg) | ((with_reducible refine gate_dst (N := 3) rfl ?_); refine box_event ?hg (N := 3) ?hd (cs := #[.int .i64 0, .slice none 0 0, .slice none 0 0]) (t := 66) ?hr ?_; (case hd => rfl); (case hg => rfl); (case hr => first | (go_simp; done) | (go_simp; rfl)); intro gb40003 hg w6 hbox hb; have n0_ := Aside0.mk (blk_below (g := gb40001) (o := .cells #[.int .i64 a0_0, .slice A0_1 l0_1.length c0_1, .slice A0_2 l0_2.length c0_2] 63 (0, 0)) (by (with_reducible repeat (first | refine blk_drewN ?_ _ | refine blk_drew ?_ | refine blk_alloc ?_ _)); exact BK40001.out) hb); have n1_ := Aside0.mk (blk_below (g := gb40002) (o := .cells #[.int .i64 0, .slice none 0 0, .slice none 0 0] 66 (0, 0)) (by (with_reducible repeat (first | refine blk_drewN ?_ _ | refine blk_drew ?_ | refine blk_alloc ?_ _)); exact BK40002.out) hb); have n2_ := Aside0.mk (below_step (by repeat (first | (with_reducible first | exact HB.out | apply below_alloc | apply pw_below_drewN | apply below_drew1 | refine below_set ?_ GE40001.out | refine below_set ?_ GE40002.out) | exact HB.out)) hb); have n3_ := Aside0.mk (hbox); have n4_ := Aside0.mk ((by rw [hg]; exact (below_size (by repeat (first | (with_reducible first | exact HB.out | apply below_alloc | apply pw_below_drewN | apply below_drew1 | refine below_set ?_ GE40001.out | refine below_set ?_ GE40002.out) | exact HB.out))) : w.heap.size ≤ gb40003)); have n5_ := Aside0.mk ((by rw [hg]; exact (below_size (by repeat (first | (with_reducible first | exact HB.out | apply below_alloc | apply pw_below_drewN | apply below_drew1 | refine below_set ?_ GE40001.out | refine below_set ?_ GE40002.out) | exact HB.out))) : w.heap.size ≤ gb40003)); have n6_ := Aside0.mk ((by rw [hg]; exact Nat.ne_of_lt (blk_lt (g := gb40001) (o := .cells #[.int .i64 a0_0, .slice A0_1 l0_1.length c0_1, .slice A0_2 l0_2.length c0_2] 63 (0, 0)) (by (with_reducible repeat (first | refine blk_drewN ?_ _ | refine blk_drew ?_ | refine blk_alloc ?_ _)); exact BK40001.out)) : gb40001 ≠ gb40003)); have n7_ := Aside0.mk ((by rw [hg]; exact Nat.ne_of_gt (blk_lt (g := gb40001) (o := .cells #[.int .i64 a0_0, .slice A0_1 l0_1.length c0_1, .slice A0_2 l0_2.length c0_2] 63 (0, 0)) (by (with_reducible repeat (first | refine blk_drewN ?_ _ | refine blk_drew ?_ | refine blk_alloc ?_ _)); exact BK40001.out)) : gb40003 ≠ gb40001)); have n8_ := Aside0.mk ((by rw [hg]; exact Nat.ne_of_lt (blk_lt (g := gb40002) (o := .cells #[.int .i64 0, .slice none 0 0, .slice none 0 0] 66 (0, 0)) (by (with_reducible repeat (first | refine blk_drewN ?_ _ | refine blk_drew ?_ | refine blk_alloc ?_ _)); exact BK40002.out)) : gb40002 ≠ gb40003)); have n9_ := Aside0.mk ((by rw [hg]; exact Nat.ne_of_gt (blk_lt (g := gb40002) (o := .cells #[.int .i64 0, .slice none 0 0, .slice none 0 0] 66 (0, 0)) (by (with_reducible repeat (first | refine blk_drewN ?_ _ | refine blk_drew ?_ | refine blk_alloc ?_ _)); exact BK40002.out)) : gb40003 ≠ gb40002)); clear BK40001; clear BK40002; clear HB; have BK40001 := n0_; have BK40002 := n1_; have HB := n2_; have BK40003 := n3_; have GW40003 := n4_; have GE40003 := n5_; have NB40001_40003 := n6_; have NB40003_40001 := n7_; have NB40002_40003 := n8_; have NB40003_40002 := n9_; clear n0_ n1_ n2_ n3_ n4_ n5_ n6_ n7_ n8_ n9_; clear hb hbox hg; have hnb7 := NB40001_40002.out; have hnc7 := NB40002_40001.out; have hnb8 := NB40001_40003.out; have hnc8 := NB40003_40001.out; have hcz9_0 : w6.cell? ⟨gb40001, 0, none⟩ = some (.int .i64 a0_0) := (blk_cell BK40001.out 0).trans rfl; have hcz9_1 : w6.cell? ⟨gb40001, 1, none⟩ = some (.slice A0_1 l0_1.length c0_1) := (blk_cell BK40001.out 1).trans rfl; have hcz9_2 : w6.cell? ⟨gb40001, 2, none⟩ = some (.slice A0_2 l0_2.length c0_2) := (blk_cell BK40001.out 2).trans rfl; have hfz9_0 := blk_frozen BK40001.out 0; have hfz9_1 := blk_frozen BK40001.out 1; have hfz9_2 := blk_frozen BK40001.out 2; have hnb10 := NB40003_40002.out; have hnc10 := NB40002_40003.out; have hcz11_0 : w6.cell? ⟨gb40003, 0, none⟩ = some (.int .i64 0) := (blk_cell BK40003.out 0).trans rfl; have hcz11_1 : w6.cell? ⟨gb40003, 1, none⟩ = some (.slice none 0 0) := (blk_cell BK40003.out 1).trans rfl; have hcz11_2 : w6.cell? ⟨gb40003, 2, none⟩ = some (.slice none 0 0) := (blk_cell BK40003.out 2).trans rfl; have hfz11_0 := blk_frozen BK40003.out 0; have hfz11_1 := blk_frozen BK40003.out 1; have hfz11_2 := blk_frozen BK40003.out 2) | ((with_reducible refine gate_callee (f := 58) rfl ?_); refine goesL_ (some 9) rfl rfl Try.func58 (by kernel_rfl) rfl #[.slice A0_1 l0_1.length c0_1] rfl (by (try simp only [List.map_toArray, List.map_cons, List.map_nil]); first | done | rfl | (simp only [List.length_drop, List.length_take]; rfl)) ?_; (with_reducible refine (laws_toIntS.calls k _ _ l0_1 t40004 _ ?side1 ?side2 A2.out).mono ?_); (case side1 => exact Kd.C_below HR0_1.out (by repeat (first | (with_reducible first | exact HB.out | apply below_alloc | apply pw_below_drewN | apply below_drew1 | refine below_set ?_ GE40001.out | refine below_set ?_ GE40002.out | refine below_set ?_ GE40003.out) | exact HB.out))); (case side2 => exact HC0_1.out); rintro e w12 ⟨v40005, rfl, ho0, hb⟩; refine ⟨_, rfl, ?_⟩; have n0_ := Aside0.mk (Kd.R_lower ho0 (below_size (by repeat (first | (with_reducible first | exact HB.out | apply below_alloc | apply pw_below_drewN | apply below_drew1 | refine below_set ?_ GE40001.out | refine below_set ?_ GE40002.out | refine below_set ?_ GE40003.out) | exact HB.out)))); have n1_ := Aside0.mk (blk_below (g := gb40001) (o := .cells #[.int .i64 a0_0, .slice A0_1 l0_1.length c0_1, .slice A0_2 l0_2.length c0_2] 63 (0, 0)) (by (with_reducible repeat (first | refine blk_drewN ?_ _ | refine blk_drew ?_ | refine blk_alloc ?_ _)); refine blk_far ?_ NB40001_40003.out _; (with_reducible repeat (first | refine blk_drewN ?_ _ | refine blk_drew ?_ | refine blk_alloc ?_ _)); exact BK40001.out) hb); have n2_ := Aside0.mk (blk_below (g := gb40002) (o := .cells #[.int .i64 0, .slice none 0 0, .slice none 0 0] 66 (0, 0)) (by (with_reducible repeat (first | refine blk_drewN ?_ _ | refine blk_drew ?_ | refine blk_alloc ?_ _)); refine blk_far ?_ NB40002_40003.out _; (with_reducible repeat (first | refine blk_drewN ?_ _ | refine blk_drew ?_ | refine blk_alloc ?_ _)); exact BK40002.out) hb); have n3_ := Aside0.mk (blk_below (g := gb40003) (o := .cells #[.int .i64 a0_0, .slice none 0 0, .slice none 0 0] 66 (0, 0)) (by (with_reducible repeat (first | refine blk_drewN ?_ _ | refine blk_drew ?_ | refine blk_alloc ?_ _)); refine blk_put (cs := #[.int .i64 0, .slice none 0 0, .slice none 0 0]) ?_ 0 _ rfl; (with_reducible repeat (first | refine blk_drewN ?_ _ | refine blk_drew ?_ | refine blk_alloc ?_ _)); exact BK40003.out) hb); have n4_ := Aside0.mk (below_step (by repeat (first | (with_reducible first | exact HB.out | apply below_alloc | apply pw_below_drewN | apply below_drew1 | refine below_set ?_ GE40001.out | refine below_set ?_ GE40002.out | refine below_set ?_ GE40003.out) | exact HB.out)) hb); clear BK40001; clear BK40002; clear BK40003; clear HB; have HO40006 := n0_; have BK40001 := n1_; have BK40002 := n2_; have BK40003 := n3_; have HB := n4_; clear n0_ n1_ n2_ n3_ n4_; (try clear hb); (try clear hb2); (try clear hk); (try clear hi); (try clear ho0); obtain ⟨Ao13, co13, eo13⟩ := Kd.R_slice HO40006.out; subst eo13; have hcz14_0 : w12.cell? ⟨gb40003, 0, none⟩ = some (.int .i64 a0_0) := (blk_cell BK40003.out 0).trans rfl; have hcz14_1 : w12.cell? ⟨gb40003, 1, none⟩ = some (.slice none 0 0) := (blk_cell BK40003.out 1).trans rfl; have hcz14_2 : w12.cell? ⟨gb40003, 2, none⟩ = some (.slice none 0 0) := (blk_cell BK40003.out 2).trans rfl; have hfz14_0 := blk_frozen BK40003.out 0; have hfz14_1 := blk_frozen BK40003.out 1; have hfz14_2 := blk_frozen BK40003.out 2; have hcz15_0 : w12.cell? ⟨gb40001, 0, none⟩ = some (.int .i64 a0_0) := (blk_cell BK40001.out 0).trans rfl; have hcz15_1 : w12.cell? ⟨gb40001, 1, none⟩ = some (.slice A0_1 l0_1.length c0_1) := (blk_cell BK40001.out 1).trans rfl; have hcz15_2 : w12.cell? ⟨gb40001, 2, none⟩ = some (.slice A0_2 l0_2.length c0_2) := (blk_cell BK40001.out 2).trans rfl; have hfz15_0 := blk_frozen BK40001.out 0; have hfz15_1 := blk_frozen BK40001.out 1; have hfz15_2 := blk_frozen BK40001.out 2) | ((with_reducible refine gate_callee (f := 58) rfl ?_); refine goesL_ (some 13) rfl rfl Try.func58 (by kernel_rfl) rfl #[.slice A0_2 l0_2.length c0_2] rfl (by (try simp only [List.map_toArray, List.map_cons, List.map_nil]); first | done | rfl | (simp only [List.length_drop, List.length_take]; rfl)) ?_; (with_reducible refine (laws_toIntS.calls k _ _ l0_2 t40007 _ ?side1 ?side2 A3.out).mono ?_); (case side1 => exact Kd.C_below HR0_2.out (by repeat (first | (with_reducible first | exact HB.out | apply below_alloc | apply pw_below_drewN | apply below_drew1 | refine below_set ?_ GE40001.out | refine below_set ?_ GE40002.out | refine below_set ?_ GE40003.out) | exact HB.out))); (case side2 => exact HC0_2.out); rintro e w16 ⟨v40008, rfl, ho0, hb⟩; refine ⟨_, rfl, ?_⟩; have n0_ := Aside0.mk (Kd.R_elder' (by (with_reducible repeat (first | apply Kd.R_alloc | apply Kd.R_drewN | apply Kd.R_drew)); exact (Kd.R_mono (Kd.R_far (p := ⟨gb40003, 1, none⟩) (Kd.R_types HO40006.out BK40003.out (by decide)) (fun _ hk => hk.2) (.slice Ao13 t40004.length co13)) (fun _ h_ => h_.1))) (Kd.R_base ho0) hb); have n1_ := Aside0.mk (Kd.R_lower (Kd.R_new' ho0 (Kd.R_lt (by (with_reducible repeat (first | apply Kd.R_alloc | apply Kd.R_drewN | apply Kd.R_drew)); exact (Kd.R_mono (Kd.R_far (p := ⟨gb40003, 1, none⟩) (Kd.R_types HO40006.out BK40003.out (by decide)) (fun _ hk => hk.2) (.slice Ao13 t40004.length co13)) (fun _ h_ => h_.1))))) (below_size (by repeat (first | (with_reducible first | exact HB.out | apply below_alloc | apply pw_below_drewN | apply below_drew1 | refine below_set ?_ GE40001.out | refine below_set ?_ GE40002.out | refine below_set ?_ GE40003.out) | exact HB.out)))); have n2_ := Aside0.mk (blk_below (g := gb40001) (o := .cells #[.int .i64 a0_0, .slice A0_1 l0_1.length c0_1, .slice A0_2 l0_2.length c0_2] 63 (0, 0)) (by (with_reducible repeat (first | refine blk_drewN ?_ _ | refine blk_drew ?_ | refine blk_alloc ?_ _)); refine blk_far ?_ NB40001_40003.out _; (with_reducible repeat (first | refine blk_drewN ?_ _ | refine blk_drew ?_ | refine blk_alloc ?_ _)); exact BK40001.out) hb); have n3_ := Aside0.mk (blk_below (g := gb40002) (o := .cells #[.int .i64 0, .slice none 0 0, .slice none 0 0] 66 (0, 0)) (by (with_reducible repeat (first | refine blk_drewN ?_ _ | refine blk_drew ?_ | refine blk_alloc ?_ _)); refine blk_far ?_ NB40002_40003.out _; (with_reducible repeat (first | refine blk_drewN ?_ _ | refine blk_drew ?_ | refine blk_alloc ?_ _)); exact BK40002.out) hb); have n4_ := Aside0.mk (blk_below (g := gb40003) (o := .cells #[.int .i64 a0_0, .slice Ao13 t40004.length co13, .slice none 0 0] 66 (0, 0)) (by (with_reducible repeat (first | refine blk_drewN ?_ _ | refine blk_drew ?_ | refine blk_alloc ?_ _)); refine blk_put (cs := #[.int .i64 a0_0, .slice none 0 0, .slice none 0 0]) ?_ 1 _ rfl; (with_reducible repeat (first | refine blk_drewN ?_ _ | refine blk_drew ?_ | refine blk_alloc ?_ _)); exact BK40003.out) hb); have n5_ := Aside0.mk (below_step (by repeat (first | (with_reducible first | exact HB.out | apply below_alloc | apply pw_below_drewN | apply below_drew1 | refine below_set ?_ GE40001.out | refine below_set ?_ GE40002.out | refine below_set ?_ GE40003.out) | exact HB.out)) hb); clear HO40006; clear BK40001; clear BK40002; clear BK40003; clear HB; have HO40006 := n0_; have HO40009 := n1_; have BK40001 := n2_; have BK40002 := n3_; have BK40003 := n4_; have HB := n5_; clear n0_ n1_ n2_ n3_ n4_ n5_; (try clear hb); (try clear hb2); (try clear hk); (try clear hi); (try clear ho0); obtain ⟨Ao17, co17, eo17⟩ := Kd.R_slice HO40009.out; subst eo17; have hcz18_0 : w16.cell? ⟨gb40003, 0, none⟩ = some (.int .i64 a0_0) := (blk_cell BK40003.out 0).trans rfl; have hcz18_1 : w16.cell? ⟨gb40003, 1, none⟩ = some (.slice Ao13 t40004.length co13) := (blk_cell BK40003.out 1).trans rfl; have hcz18_2 : w16.cell? ⟨gb40003, 2, none⟩ = some (.slice none 0 0) := (blk_cell BK40003.out 2).trans rfl; have hfz18_0 := blk_frozen BK40003.out 0; have hfz18_1 := blk_frozen BK40003.out 1; have hfz18_2 := blk_frozen BK40003.out 2; have hcz19_0 : w16.cell? ⟨gb40002, 0, none⟩ = some (.int .i64 0) := (blk_cell BK40002.out 0).trans rfl; have hcz19_1 : w16.cell? ⟨gb40002, 1, none⟩ = some (.slice none 0 0) := (blk_cell BK40002.out 1).trans rfl; have hcz19_2 : w16.cell? ⟨gb40002, 2, none⟩ = some (.slice none 0 0) := (blk_cell BK40002.out 2).trans rfl; have hfz19_0 := blk_frozen BK40002.out 0; have hfz19_1 := blk_frozen BK40002.out 1; have hfz19_2 := blk_frozen BK40002.out 2))
 refine bodyPost_ret (results_cell_row rfl _ _ gb40002 66 #[.int .i64 a0_0, .slice Ao13 t40004.length co13, .slice Ao17 t40007.length co17] (0, 0) _ rfl (by (with_reducible repeat (first | refine blk_drewN ?_ _ | refine blk_drew ?_ | refine blk_alloc ?_ _)); refine blk_put (cs := #[.int .i64 a0_0, .slice Ao13 t40004.length co13, .slice none 0 0]) ?_ 2 _ rfl; (with_reducible repeat (first | refine blk_drewN ?_ _ | refine blk_drew ?_ | refine blk_alloc ?_ _)); refine blk_put (cs := #[.int .i64 a0_0, .slice none 0 0, .slice none 0 0]) ?_ 1 _ rfl; (with_reducible repeat (first | refine blk_drewN ?_ _ | refine blk_drew ?_ | refine blk_alloc ?_ _)); refine blk_put (cs := #[.int .i64 0, .slice none 0 0, .slice none 0 0]) ?_ 0 _ rfl; (with_reducible repeat (first | refine blk_drewN ?_ _ | refine blk_drew ?_ | refine blk_alloc ?_ _)); refine blk_far ?_ NB40002_40003.out _; (with_reducible repeat (first | refine blk_drewN ?_ _ | refine blk_drew ?_ | refine blk_alloc ?_ _)); exact BK40002.out) Try.underlying66 rfl (by kernel_rfl)) rfl ?_
 exact ⟨_, _, by first | rfl | (simp [errW_none, errW_some] <;> rfl) | (simp [*, errW_none, errW_some] <;> rfl), by (with_reducible repeat (first | apply Kd.R_alloc | apply Kd.R_drewN | apply Kd.R_drew)); exact Kd.R_mono (Kd.R_far (p := ⟨gb40002, 2, none⟩) (Kd.R_far (p := ⟨gb40002, 1, none⟩) (Kd.R_far (p := ⟨gb40002, 0, none⟩) (Kd.R_far (p := ⟨gb40003, 2, none⟩) (Kd.R_types (Kd.R_types HO40006.out BK40003.out (by decide)) BK40002.out (by decide)) (fun _ hk => hk.1.2) (.slice Ao17 t40007.length co17)) (fun _ hk => hk.2) (.int .i64 a0_0)) (fun _ hk => hk.2) (.slice Ao13 t40004.length co13)) (fun _ hk => hk.2) (.slice Ao17 t40007.length co17)) (fun _ hk => hk.1.1.2), by (with_reducible repeat (first | apply Kd.R_alloc | apply Kd.R_drewN | apply Kd.R_drew)); exact Kd.R_mono (Kd.R_far (p := ⟨gb40002, 2, none⟩) (Kd.R_far (p := ⟨gb40002, 1, none⟩) (Kd.R_far (p := ⟨gb40002, 0, none⟩) (Kd.R_far (p := ⟨gb40003, 2, none⟩) (Kd.R_types (Kd.R_types HO40009.out BK40003.out (by decide)) BK40002.out (by decide)) (fun _ hk => hk.1.2) (.slice Ao17 t40007.length co17)) (fun _ hk => hk.2) (.int .i64 a0_0)) (fun _ hk => hk.2) (.slice Ao13 t40004.length co13)) (fun _ hk => hk.2) (.slice Ao17 t40007.length co17)) (fun _ hk => hk.1.1.2), by repeat (first | (with_reducible first | exact HB.out | apply below_alloc | apply pw_below_drewN | apply below_drew1 | refine below_set ?_ GE40001.out | refine below_set ?_ GE40002.out | refine below_set ?_ GE40003.out) | exact HB.out)⟩

end Go.Proofs.Ytodfnelilhjoeaa.Pr

namespace Go.Proofs.Ytodfnelilhjoeaa.Pr
open Go.RowKit Go.Proofs.YtodfnelilhjoeaaW.PrintWords Go.Proofs.YtodfnelilhjoeaaW.PrintLast Go.Proofs.YtodfnelilhjoeaaW.PrintMore
attribute [local go_sem] max2_int min2_int max_two min_two max_three min_three max_four min_four
set_option linter.unusedVariables false
set_option linter.unusedSimpArgs false

theorem laws_toState.c (k : Nat) (a0_0 : Int) (A0_1 : Option Addr) (c0_1 : Nat) (l0_1 : List Int) (A0_2 : Option Addr) (c0_2 : Nat) (l0_2 : List Int) (r1 : Int) (r2 : List Int) (r3 : List Int) (w : World) (hr0_1 : Kd.C (Kd.int .i64) w A0_1 l0_1.length l0_1) (hc0_1 : l0_1.length ≤ c0_1) (hr0_2 : Kd.C (Kd.int .i64) w A0_2 l0_2.length l0_2) (hc0_2 : l0_2.length ≤ c0_2) (h : laws_toState.f k a0_0 l0_1 l0_2 = some (r1, r2, r3)) :
  Calls Try.prog 40 #[.agg #[.int .i64 a0_0, .slice A0_1 l0_1.length c0_1, .slice A0_2 l0_2.length c0_2]] w fun e w' => ∃ A0_ c0_ A1_ c1_, e = .returned (.agg #[.int .i64 r1, .slice A0_ r2.length c0_, .slice A1_ r3.length c1_]) ∧ Aside0 (r2.length ≤ c0_ ∧ Kd.C (Kd.int .i64) w' A0_ r2.length r2) ∧ Aside0 (r3.length ≤ c1_ ∧ Kd.C (Kd.int .i64) w' A1_ r3.length r3) ∧ Below w.heap.size w w' :=
 (laws_toState.calls k a0_0 A0_1 c0_1 l0_1 A0_2 c0_2 l0_2 r1 r2 r3 w hr0_1 hc0_1 hr0_2 hc0_2 h).mono fun e w' ⟨v1_, v2_, he, q0_, q1_, hb⟩ => by
  obtain ⟨A0_, c0_, rfl, g0_⟩ := Kd.R_reads q0_
  obtain ⟨A1_, c1_, rfl, g1_⟩ := Kd.R_reads q1_
  exact ⟨A0_, c0_, A1_, c1_, he, ⟨g0_⟩, ⟨g1_⟩, hb⟩

end Go.Proofs.Ytodfnelilhjoeaa.Pr

namespace Go.Proofs.Ytodfnelilhjoeaa.Pr
open Go.RowKit Go.Proofs.YtodfnelilhjoeaaW.PrintWords Go.Proofs.YtodfnelilhjoeaaW.PrintLast Go.Proofs.YtodfnelilhjoeaaW.PrintMore
attribute [local go_sem] max2_int min2_int max_two min_two max_three min_three max_four min_four
set_option linter.unusedVariables false
set_option linter.unusedSimpArgs false

/-! ### spec_l13Active: function 103 -/
def spec_l13Active.l0 : Nat → List Int → List (S90) → Int → Int → Int → List Int → List Int → Option (List Int)
 | 0, _, _, _, _, _, _, _ => none
 | k + 1, x5, x10, x11, x12, x103003000, x103003001, x103003002 => if x12 < x11 then (if 0 ≤ x12 then (if x12 < (x10.length : Int) then (if (rd_T90 x10 x12).f4 = true then (if 0 ≤ ((rd_T90 x10 x12).f0) then (if ((rd_T90 x10 x12).f0) < (x103003001.length : Int) then (if (rd x103003001 ((rd_T90 x10 x12).f0)) = (-1) then (spec_l13Active.l0 k x5 x10 x11 (wrap64 (x12 + 1)) x103003000 x103003001 x103003002) else (if 0 ≤ ((rd_T90 x10 x12).f1) then (if ((rd_T90 x10 x12).f1) < (x103003001.length : Int) then (if (rd x103003001 ((rd_T90 x10 x12).f1)) = (-1) then (if x5.length < 17592186044416 then (spec_l13Active.l0 k (x5 ++ [x12]) x10 x11 (wrap64 (x12 + 1)) x103003000 x103003001 x103003002) else (none)) else (spec_l13Active.l0 k x5 x10 x11 (wrap64 (x12 + 1)) x103003000 x103003001 x103003002)) else (none)) else (none))) else (none)) else (none)) else (spec_l13Active.l0 k x5 x10 x11 (wrap64 (x12 + 1)) x103003000 x103003001 x103003002)) else (none)) else (none)) else (some x5)
def spec_l13Active.f (k : Nat) (l0_0 : List (S116)) (l0_1 : List (S90)) (a0_2 : Int) (a1_0 : Int) (l1_1 : List Int) (l1_2 : List Int) : Option (List Int) := spec_l13Active.l0 k (([] : List Int)) l0_1 (l0_1.length : Int) 0 a1_0 l1_1 l1_2
set_option maxHeartbeats 8000000 in
set_option maxRecDepth 100000 in
theorem spec_l13Active.calls (k : Nat) (A0_0 : Option Addr) (c0_0 : Nat) (l0_0 : List (S116)) (A0_1 : Option Addr) (c0_1 : Nat) (l0_1 : List (S90)) (a0_2 : Int) (a1_0 : Int) (A1_1 : Option Addr) (c1_1 : Nat) (l1_1 : List Int) (A1_2 : Option Addr) (c1_2 : Nat) (l1_2 : List Int) (r : List Int) (w : World) (hr0_0 : Kd.C k116 w A0_0 l0_0.length l0_0) (hc0_0 : l0_0.length ≤ c0_0) (hr0_1 : Kd.C k90 w A0_1 l0_1.length l0_1) (hc0_1 : l0_1.length ≤ c0_1) (hr1_1 : Kd.C (Kd.int .i64) w A1_1 l1_1.length l1_1) (hc1_1 : l1_1.length ≤ c1_1) (hr1_2 : Kd.C (Kd.int .i64) w A1_2 l1_2.length l1_2) (hc1_2 : l1_2.length ≤ c1_2) (h : spec_l13Active.f k l0_0 l0_1 a0_2 a1_0 l1_1 l1_2 = some r) :
  Calls Try.prog 103 #[.agg #[.slice A0_0 l0_0.length c0_0, .slice A0_1 l0_1.length c0_1, .int .i64 a0_2], .agg #[.int .i64 a1_0, .slice A1_1 l1_1.length c1_1, .slice A1_2 l1_2.length c1_2]] w fun e w' => ∃ v0_ : Value, e = .returned (v0_) ∧ Kd.R (Kd.int .i64) 3 w' w.heap.size (fun _ => True) v0_ r ∧ Below w.heap.size w w' := by
 have hu35 := Try.underlying35
 have hu66 := Try.underlying66
 have hu90 := Try.underlying90
 have HR0_0 := Aside0.mk hr0_0; have HC0_0 := Aside0.mk hc0_0; clear hr0_0 hc0_0; have HR0_1 := Aside0.mk hr0_1; have HC0_1 := Aside0.mk hc0_1; clear hr0_1 hc0_1; have HR1_1 := Aside0.mk hr1_1; have HC1_1 := Aside0.mk hc1_1; clear hr1_1 hc1_1; have HR1_2 := Aside0.mk hr1_2; have HC1_2 := Aside0.mk hc1_2; clear hr1_2 hc1_2
 have HB := Aside0.mk (Below.refl w.heap.size w)
 have H : (spec_l13Active.l0 k (([] : List Int)) l0_1 (l0_1.length : Int) 0 a1_0 l1_1 l1_2) = some r := h
 clear h
 obtain ⟨y103003, hy103003⟩ : ∃ y_ : List Int, y_ = (([] : List Int)) := ⟨_, rfl⟩
 replace H : (spec_l13Active.l0 k y103003 l0_1 (l0_1.length : Int) 0 a1_0 l1_1 l1_2) = some r := by first | (rw [hy103003]; with_reducible exact H) | (have H2_ := (Option.bind_some _ _).symm.trans H; rw [hy103003]; with_reducible exact H2_) | (have H2_ := (Option.bind_some _ _).symm.trans H; with_reducible exact H2_) | with_reducible exact H | (rw [hy103003]; exact H) | exact H
 have Ny103003 := Aside0.mk hy103003; clear hy103003
 have H' := Aside0.mk H
 clear H
 go_enter Try.func103, Try.ntmps103
 go_wp2_with (first | ((with_reducible refine gate_dst (N := 2) rfl ?_); refine box_event ?hg (N := 2) ?hd (cs := #[.slice A0_0 l0_0.length c0_0, .slice A0_1 l0_1.length c0_1, .int .i64 a0_2]) (t := 35) ?hr ?_; (case hd => rfl); (case hg => rfl); (case hr => first | (go_simp; done) | (go_simp; rfl)); intro gb103001 hg w3 hbox hb; have n0_ := Aside0.mk (below_step (by repeat (first | (with_reducible first | exact HB.out | apply below_alloc | apply pw_below_drewN | apply below_drew1) | exact HB.out)) hb); have n1_ := Aside0.mk (hbox); have n2_ := Aside0.mk ((by rw [hg]; exact (below_size (by repeat (first | (with_reducible first | exact HB.out | apply below_alloc | apply pw_below_drewN | apply below_drew1) | exact HB.out))) : w.heap.size ≤ gb103001)); have n3_ := Aside0.mk ((by rw [hg]; exact (below_size (by repeat (first | (with_reducible first | exact HB.out | apply below_alloc | apply pw_below_drewN | apply below_drew1) | exact HB.out))) : w.heap.size ≤ gb103001)); clear HB; have HB := n0_; have BK103001 := n1_; have GW103001 := n2_; have GE103001 := n3_; clear n0_ n1_ n2_ n3_; clear hb hbox hg) | ((with_reducible refine gate_dst (N := 3) rfl ?_); refine box_event ?hg (N := 3) ?hd (cs := #[.int .i64 a1_0, .slice A1_1 l1_1.length c1_1, .slice A1_2 l1_2.length c1_2]) (t := 66) ?hr ?_; (case hd => rfl); (case hg => rfl); (case hr => first | (go_simp; done) | (go_simp; rfl)); intro gb103002 hg w4 hbox hb; have n0_ := Aside0.mk (blk_below (g := gb103001) (o := .cells #[.slice A0_0 l0_0.length c0_0, .slice A0_1 l0_1.length c0_1, .int .i64 a0_2] 35 (0, 0)) (by (with_reducible repeat (first | refine blk_drewN ?_ _ | refine blk_drew ?_ | refine blk_alloc ?_ _)); exact BK103001.out) hb); have n1_ := Aside0.mk (below_step (by repeat (first | (with_reducible first | exact HB.out | apply below_alloc | apply pw_below_drewN | apply below_drew1 | refine below_set ?_ GE103001.out) | exact HB.out)) hb); have n2_ := Aside0.mk (hbox); have n3_ := Aside0.mk ((by rw [hg]; exact (below_size (by repeat (first | (with_reducible first | exact HB.out | apply below_alloc | apply pw_below_drewN | apply below_drew1 | refine below_set ?_ GE103001.out) | exact HB.out))) : w.heap.size ≤ gb103002)); have n4_ := Aside0.mk ((by rw [hg]; exact (below_size (by repeat (first | (with_reducible first | exact HB.out | apply below_alloc | apply pw_below_drewN | apply below_drew1 | refine below_set ?_ GE103001.out) | exact HB.out))) : w.heap.size ≤ gb103002)); have n5_ := Aside0.mk ((by rw [hg]; exact Nat.ne_of_lt (blk_lt (g := gb103001) (o := .cells #[.slice A0_0 l0_0.length c0_0, .slice A0_1 l0_1.length c0_1, .int .i64 a0_2] 35 (0, 0)) (by (with_reducible repeat (first | refine blk_drewN ?_ _ | refine blk_drew ?_ | refine blk_alloc ?_ _)); exact BK103001.out)) : gb103001 ≠ gb103002)); have n6_ := Aside0.mk ((by rw [hg]; exact Nat.ne_of_gt (blk_lt (g := gb103001) (o := .cells #[.slice A0_0 l0_0.length c0_0, .slice A0_1 l0_1.length c0_1, .int .i64 a0_2] 35 (0, 0)) (by (with_reducible repeat (first | refine blk_drewN ?_ _ | refine blk_drew ?_ | refine blk_alloc ?_ _)); exact BK103001.out)) : gb103002 ≠ gb103001)); clear BK103001; clear HB; have BK103001 := n0_; have HB := n1_; have BK103002 := n2_; have GW103002 := n3_; have GE103002 := n4_; have NB103001_103002 := n5_; have NB103002_103001 := n6_; clear n0_ n1_ n2_ n3_ n4_ n5_ n6_; clear hb hbox hg) | ((with_reducible refine gate_dst (N := 8) rfl ?_); refine Kd.R_lit (Kd.int .i64) _ 3 ?hg (N := 8) ?hd (xs := ([] : List Int)) (inner := []) (ok := fun _ => True) (okp := fun _ => True) ?hr ?hp (fun _ hk => hk) trivial (Below.refl _ _) (Nat.le_refl _) (by simp) ?_; (case hd => rfl); (case hg => rfl); (case hr => first | (go_simp; done) | (go_simp; rfl)); (case hp => exact (Reps.none _ _)); intro v103004 w5 ho6 hb hg_ hnew_; clear hg_ hnew_; (first | rw [← Ny103003.out] at ho6 | (simp only [Int.reduceToNat] at ho6; rw [← Ny103003.out] at ho6)); have n0_ := Aside0.mk (Kd.R_lower ho6 (below_size (by repeat (first | (with_reducible first | exact HB.out | apply below_alloc | apply pw_below_drewN | apply below_drew1 | refine below_set ?_ GE103001.out | refine below_set ?_ GE103002.out) | exact HB.out)))); have n1_ := Aside0.mk (blk_below (g := gb103001) (o := .cells #[.slice A0_0 l0_0.length c0_0, .slice A0_1 l0_1.length c0_1, .int .i64 a0_2] 35 (0, 0)) (by (with_reducible repeat (first | refine blk_drewN ?_ _ | refine blk_drew ?_ | refine blk_alloc ?_ _)); exact BK103001.out) hb); have n2_ := Aside0.mk (blk_below (g := gb103002) (o := .cells #[.int .i64 a1_0, .slice A1_1 l1_1.length c1_1, .slice A1_2 l1_2.length c1_2] 66 (0, 0)) (by (with_reducible repeat (first | refine blk_drewN ?_ _ | refine blk_drew ?_ | refine blk_alloc ?_ _)); exact BK103002.out) hb); have n3_ := Aside0.mk (below_step (by repeat (first | (with_reducible first | exact HB.out | apply below_alloc | apply pw_below_drewN | apply below_drew1 | refine below_set ?_ GE103001.out | refine below_set ?_ GE103002.out) | exact HB.out)) hb); clear BK103001; clear BK103002; clear HB; have HO103005 := n0_; have BK103001 := n1_; have BK103002 := n2_; have HB := n3_; clear n0_ n1_ n2_ n3_; clear hb ho6; have hnb7 := NB103001_103002.out; have hnc7 := NB103002_103001.out; have hcz8_0 : w5.cell? ⟨gb103001, 0, none⟩ = some (.slice A0_0 l0_0.length c0_0) := (blk_cell BK103001.out 0).trans rfl; have hcz8_1 : w5.cell? ⟨gb103001, 1, none⟩ = some (.slice A0_1 l0_1.length c0_1) := (blk_cell BK103001.out 1).trans rfl; have hcz8_2 : w5.cell? ⟨gb103001, 2, none⟩ = some (.int .i64 a0_2) := (blk_cell BK103001.out 2).trans rfl; have hfz8_0 := blk_frozen BK103001.out 0; have hfz8_1 := blk_frozen BK103001.out 1; have hfz8_2 := blk_frozen BK103001.out 2))
 go_loopg [5, 12] k (fun kq v5 v12 w' => ∃ (x5_1 : List Int) (x12_1 : Int), v12 = .int .i64 x12_1 ∧ Aside0 (spec_l13Active.l0 kq x5_1 l0_1 (l0_1.length : Int) x12_1 a1_0 l1_1 l1_2 = some r) ∧ Aside0 (kq ≤ k) ∧ Aside0 (Kd.R (Kd.int .i64) 3 w' w.heap.size (fun _ => True) v5 x5_1) ∧ Aside0 (w'.heap[gb103001]? = some (.cells #[(.slice A0_0 l0_0.length c0_0), (.slice A0_1 l0_1.length c0_1), .int .i64 a0_2] 35 (0, 0))) ∧ Aside0 (w'.heap[gb103002]? = some (.cells #[.int .i64 a1_0, (.slice A1_1 l1_1.length c1_1), (.slice A1_2 l1_2.length c1_2)] 66 (0, 0))) ∧ Aside0 (Below w.heap.size w w'))
 case atStart => exact ⟨(y103003), (0), (by first | rfl | (simp; done) | (simp [*]; done)), H', ⟨Nat.le_refl _⟩, ⟨by (with_reducible repeat (first | apply Kd.R_alloc | apply Kd.R_drewN | apply Kd.R_drew)); exact HO103005.out⟩, ⟨by (with_reducible repeat (first | refine blk_drewN ?_ _ | refine blk_drew ?_ | refine blk_alloc ?_ _)); exact BK103001.out⟩, ⟨by (with_reducible repeat (first | refine blk_drewN ?_ _ | refine blk_drew ?_ | refine blk_alloc ?_ _)); exact BK103002.out⟩, ⟨by repeat (first | (with_reducible first | exact HB.out | apply below_alloc | apply pw_below_drewN | apply below_drew1 | refine below_set ?_ GE103001.out | refine below_set ?_ GE103002.out) | exact HB.out)⟩⟩
 case round =>
  clear H'
  try clear c1
  try clear p2
  try clear c7
  try clear hcz8_0
  try clear hcz8_1
  try clear hcz8_2
  try clear hfz8_0
  try clear hfz8_1
  try clear hfz8_2
  obtain ⟨x5_1, x12_1, rfl, HA, HK1, HO_5, BK103001, BK103002, HB⟩ := hrel
  cases gk with
  | zero => exact absurd HA.out (by simp [spec_l13Active.l0])
  | succ k1 =>
   have H := HA.out
   clear HA
   simp only [spec_l13Active.l0] at H
   by_cases c9 : x12_1 < (l0_1.length : Int)
   ·rw [if_pos c9] at H
    have c9b0 : decide (x12_1 < (l0_1.length : Int)) = true := decide_eq_true c9
    clear c9
    by_cases c10 : 0 ≤ x12_1
    ·rw [if_pos c10] at H
     have c10b0 : decide (0 ≤ x12_1) = true := decide_eq_true c10
     clear c10
     by_cases c11 : x12_1 < (l0_1.length : Int)
     ·rw [if_pos c11] at H
      have c11b0 : decide (x12_1 < (l0_1.length : Int)) = true := decide_eq_true c11
      clear c11
      obtain ⟨bq12, hbq12⟩ : ∃ b_ : Bool, b_ = ((rd_T90 l0_1 x12_1).f4) := ⟨_, rfl⟩
      replace H : (if bq12 = true then (if 0 ≤ ((rd_T90 l0_1 x12_1).f0) then (if ((rd_T90 l0_1 x12_1).f0) < (l1_1.length : Int) then (if (rd l1_1 ((rd_T90 l0_1 x12_1).f0)) = (-1) then (spec_l13Active.l0 k1 x5_1 l0_1 (l0_1.length : Int) (wrap64 (x12_1 + 1)) a1_0 l1_1 l1_2) else (if 0 ≤ ((rd_T90 l0_1 x12_1).f1) then (if ((rd_T90 l0_1 x12_1).f1) < (l1_1.length : Int) then (if (rd l1_1 ((rd_T90 l0_1 x12_1).f1)) = (-1) then (if x5_1.length < 17592186044416 then (spec_l13Active.l0 k1 (x5_1 ++ [x12_1]) l0_1 (l0_1.length : Int) (wrap64 (x12_1 + 1)) a1_0 l1_1 l1_2) else (none)) else (spec_l13Active.l0 k1 x5_1 l0_1 (l0_1.length : Int) (wrap64 (x12_1 + 1)) a1_0 l1_1 l1_2)) else (none)) else (none))) else (none)) else (none)) else (spec_l13Active.l0 k1 x5_1 l0_1 (l0_1.length : Int) (wrap64 (x12_1 + 1)) a1_0 l1_1 l1_2)) = some r := by rw [← hbq12] at H; exact H
      have Nbq12 := Aside0.mk hbq12; clear hbq12
      by_cases c13 : bq12 = true
      ·subst c13
       rw [if_pos rfl] at H
       by_cases c14 : 0 ≤ ((rd_T90 l0_1 x12_1).f0)
       ·rw [if_pos c14] at H
        have c14b0 : decide (0 ≤ ((rd_T90 l0_1 x12_1).f0)) = true := decide_eq_true c14
        clear c14
        by_cases c15 : ((rd_T90 l0_1 x12_1).f0) < (l1_1.length : Int)
        ·rw [if_pos c15] at H
         have c15b0 : decide (((rd_T90 l0_1 x12_1).f0) < (l1_1.length : Int)) = true := decide_eq_true c15
         clear c15
         by_cases c16 : (rd l1_1 ((rd_T90 l0_1 x12_1).f0)) = (-1)
         ·rw [if_pos c16] at H
          have c16b0 : ((rd l1_1 ((rd_T90 l0_1 x12_1).f0)) == (-1)) = true := beq_iff_eq.mpr c16
          have c16b1 : ((rd l1_1 ((rd_T90 l0_1 x12_1).f0)) != (-1)) = false := bne_eq_false_iff_eq.mpr c16
          clear c16
          have H' := Aside0.mk H
          clear H
          have p103006 : 0 ≤ (x12_1 : Int) := of_decide_eq_true (by first | (with_reducible assumption) | assumption)
          have q103006 : x12_1 < (l0_1.length : Int) := of_decide_eq_true (by first | (with_reducible assumption) | assumption)
          obtain ⟨ad103006, e103006, hx103006_0, hx103006_1, hx103006_2, hx103006_3, hx103006_4⟩ := at_T90 HR0_1.out x12_1 p103006 q103006
          (try rw [← Nbq12.out] at hx103006_4)
          cases e103006
          replace hx103006_0 := (HB.out.cell (World.block_lt_of_cell? w _ hx103006_0)).trans hx103006_0
          replace hx103006_1 := (HB.out.cell (World.block_lt_of_cell? w _ hx103006_1)).trans hx103006_1
          replace hx103006_2 := (HB.out.cell (World.block_lt_of_cell? w _ hx103006_2)).trans hx103006_2
          replace hx103006_3 := (HB.out.cell (World.block_lt_of_cell? w _ hx103006_3)).trans hx103006_3
          replace hx103006_4 := (HB.out.cell (World.block_lt_of_cell? w _ hx103006_4)).trans hx103006_4
          replace p103006 := eq_true p103006
          replace q103006 := eq_true q103006
          go_wp2_with (first | ((with_reducible refine gate_dst (N := 7) rfl ?_); refine box_event ?hg (N := 7) ?hd (cs := #[.int .i64 0, .int .i64 0, .int .i64 0, .int .i64 0, .bool false]) (t := 90) ?hr ?_; (case hd => rfl); (case hg => rfl); (case hr => first | (go_simp; done) | (go_simp; rfl)); intro gb103007 hg w17 hbox hb; have n0_ := Aside0.mk (Kd.R_below (by (with_reducible repeat (first | apply Kd.R_alloc | apply Kd.R_drewN | apply Kd.R_drew)); exact HO_5.out) hb); have n1_ := Aside0.mk (blk_below (g := gb103001) (o := .cells #[.slice A0_0 l0_0.length c0_0, .slice (some ad103006) l0_1.length c0_1, .int .i64 a0_2] 35 (0, 0)) (by (with_reducible repeat (first | refine blk_drewN ?_ _ | refine blk_drew ?_ | refine blk_alloc ?_ _)); exact BK103001.out) hb); have n2_ := Aside0.mk (blk_below (g := gb103002) (o := .cells #[.int .i64 a1_0, .slice A1_1 l1_1.length c1_1, .slice A1_2 l1_2.length c1_2] 66 (0, 0)) (by (with_reducible repeat (first | refine blk_drewN ?_ _ | refine blk_drew ?_ | refine blk_alloc ?_ _)); exact BK103002.out) hb); have n3_ := Aside0.mk (below_step (by repeat (first | (with_reducible first | exact HB.out | apply below_alloc | apply pw_below_drewN | apply below_drew1 | refine below_set ?_ GE103001.out | refine below_set ?_ GE103002.out) | exact HB.out)) hb); have n4_ := Aside0.mk (hbox); have n5_ := Aside0.mk ((by rw [hg]; exact (below_size (by repeat (first | (with_reducible first | exact HB.out | apply below_alloc | apply pw_below_drewN | apply below_drew1 | refine below_set ?_ GE103001.out | refine below_set ?_ GE103002.out) | exact HB.out))) : w.heap.size ≤ gb103007)); have n6_ := Aside0.mk ((by rw [hg]; exact (below_size (by repeat (first | (with_reducible first | exact HB.out | apply below_alloc | apply pw_below_drewN | apply below_drew1 | refine below_set ?_ GE103001.out | refine below_set ?_ GE103002.out) | exact HB.out))) : w.heap.size ≤ gb103007)); have n7_ := Aside0.mk ((by rw [hg]; exact Nat.ne_of_lt (blk_lt (g := gb103001) (o := .cells #[.slice A0_0 l0_0.length c0_0, .slice (some ad103006) l0_1.length c0_1, .int .i64 a0_2] 35 (0, 0)) (by (with_reducible repeat (first | refine blk_drewN ?_ _ | refine blk_drew ?_ | refine blk_alloc ?_ _)); exact BK103001.out)) : gb103001 ≠ gb103007)); have n8_ := Aside0.mk ((by rw [hg]; exact Nat.ne_of_gt (blk_lt (g := gb103001) (o := .cells #[.slice A0_0 l0_0.length c0_0, .slice (some ad103006) l0_1.length c0_1, .int .i64 a0_2] 35 (0, 0)) (by (with_reducible repeat (first | refine blk_drewN ?_ _ | refine blk_drew ?_ | refine blk_alloc ?_ _)); exact BK103001.out)) : gb103007 ≠ gb103001)); have n9_ := Aside0.mk ((by rw [hg]; exact Nat.ne_of_lt (blk_lt (g := gb103002) (o := .cells #[.int .i64 a1_0, .slice A1_1 l1_1.length c1_1, .slice A1_2 l1_2.length c1_2] 66 (0, 0)) (by (with_reducible repeat (first | refine blk_drewN ?_ _ | refine blk_drew ?_ | refine blk_alloc ?_ _)); exact BK103002.out)) : gb103002 ≠ gb103007)); have n10_ := Aside0.mk ((by rw [hg]; exact Nat.ne_of_gt (blk_lt (g := gb103002) (o := .cells #[.int .i64 a1_0, .slice A1_1 l1_1.length c1_1, .slice A1_2 l1_2.length c1_2] 66 (0, 0)) (by (with_reducible repeat (first | refine blk_drewN ?_ _ | refine blk_drew ?_ | refine blk_alloc ?_ _)); exact BK103002.out)) : gb103007 ≠ gb103002)); clear HO_5; clear BK103001; clear BK103002; clear HB; have HO_5 := n0_; have BK103001 := n1_; have BK103002 := n2_; have HB := n3_; have BK103007 := n4_; have GW103007 := n5_; have GE103007 := n6_; have NB103001_103007 := n7_; have NB103007_103001 := n8_; have NB103002_103007 := n9_; have NB103007_103002 := n10_; clear n0_ n1_ n2_ n3_ n4_ n5_ n6_ n7_ n8_ n9_ n10_; clear hb hbox hg; have hnb18 := NB103007_103001.out; have hnc18 := NB103001_103007.out; have hnb19 := NB103007_103002.out; have hnc19 := NB103002_103007.out; have hcz20_0 : w17.cell? ⟨gb103007, 0, none⟩ = some (.int .i64 0) := (blk_cell BK103007.out 0).trans rfl; have hcz20_1 : w17.cell? ⟨gb103007, 1, none⟩ = some (.int .i64 0) := (blk_cell BK103007.out 1).trans rfl; have hcz20_2 : w17.cell? ⟨gb103007, 2, none⟩ = some (.int .i64 0) := (blk_cell BK103007.out 2).trans rfl; have hcz20_3 : w17.cell? ⟨gb103007, 3, none⟩ = some (.int .i64 0) := (blk_cell BK103007.out 3).trans rfl; have hcz20_4 : w17.cell? ⟨gb103007, 4, none⟩ = some (.bool false) := (blk_cell BK103007.out 4).trans rfl; have hfz20_0 := blk_frozen BK103007.out 0; have hfz20_1 := blk_frozen BK103007.out 1; have hfz20_2 := blk_frozen BK103007.out 2; have hfz20_3 := blk_frozen BK103007.out 3; have hfz20_4 := blk_frozen BK103007.out 4; have hnb21 := NB103002_103001.out; have hnc21 := NB103001_103002.out; have hcz22_0 : w17.cell? ⟨gb103002, 0, none⟩ = some (.int .i64 a1_0) := (blk_cell BK103002.out 0).trans rfl; have hcz22_1 : w17.cell? ⟨gb103002, 1, none⟩ = some (.slice A1_1 l1_1.length c1_1) := (blk_cell BK103002.out 1).trans rfl; have hcz22_2 : w17.cell? ⟨gb103002, 2, none⟩ = some (.slice A1_2 l1_2.length c1_2) := (blk_cell BK103002.out 2).trans rfl; have hfz22_0 := blk_frozen BK103002.out 0; have hfz22_1 := blk_frozen BK103002.out 1; have hfz22_2 := blk_frozen BK103002.out 2; have p103008 : 0 ≤ (((rd_T90 l0_1 x12_1).f0) : Int) := of_decide_eq_true (by first | (with_reducible assumption) | assumption); have q103008 : ((rd_T90 l0_1 x12_1).f0) < (l1_1.length : Int) := of_decide_eq_true (by first | (with_reducible assumption) | assumption); obtain ⟨ad103008, e103008, hx103008_0⟩ := Kd.at_int HR1_1.out ((rd_T90 l0_1 x12_1).f0) p103008 q103008; cases e103008; have hn103008_0 : ad103008.block ≠ gb103007 := Nat.ne_of_lt (Nat.lt_of_lt_of_le (by have := World.block_lt_of_cell? _ _ hx103008_0; first | rwa [add_block] at this | exact this) GW103007.out); have hn103008_1 : ad103008.block ≠ gb103007 := Nat.ne_of_lt (Nat.lt_of_lt_of_le (by have := World.block_lt_of_cell? _ _ hx103008_0; first | rwa [add_block] at this | exact this) GW103007.out); have hn103008_2 : ad103008.block ≠ gb103007 := Nat.ne_of_lt (Nat.lt_of_lt_of_le (by have := World.block_lt_of_cell? _ _ hx103008_0; first | rwa [add_block] at this | exact this) GW103007.out); have hn103008_3 : ad103008.block ≠ gb103007 := Nat.ne_of_lt (Nat.lt_of_lt_of_le (by have := World.block_lt_of_cell? _ _ hx103008_0; first | rwa [add_block] at this | exact this) GW103007.out); have hn103008_4 : ad103008.block ≠ gb103007 := Nat.ne_of_lt (Nat.lt_of_lt_of_le (by have := World.block_lt_of_cell? _ _ hx103008_0; first | rwa [add_block] at this | exact this) GW103007.out); replace hx103008_0 := (HB.out.cell (World.block_lt_of_cell? w _ hx103008_0)).trans hx103008_0; replace hx103008_0 := (cell_far (p := ⟨gb103007, 0, none⟩) (by first | (rw [add_block]; exact hn103008_0) | (show (Addr.add _ _).block ≠ _; rw [add_block]; exact hn103008_0) | exact hn103008_0) (.int .i64 ((rd_T90 l0_1 x12_1).f0))).trans hx103008_0; replace hx103008_0 := (cell_far (p := ⟨gb103007, 1, none⟩) (by first | (rw [add_block]; exact hn103008_1) | (show (Addr.add _ _).block ≠ _; rw [add_block]; exact hn103008_1) | exact hn103008_1) (.int .i64 ((rd_T90 l0_1 x12_1).f1))).trans hx103008_0; replace hx103008_0 := (cell_far (p := ⟨gb103007, 2, none⟩) (by first | (rw [add_block]; exact hn103008_2) | (show (Addr.add _ _).block ≠ _; rw [add_block]; exact hn103008_2) | exact hn103008_2) (.int .i64 ((rd_T90 l0_1 x12_1).f2))).trans hx103008_0; replace hx103008_0 := (cell_far (p := ⟨gb103007, 3, none⟩) (by first | (rw [add_block]; exact hn103008_3) | (show (Addr.add _ _).block ≠ _; rw [add_block]; exact hn103008_3) | exact hn103008_3) (.int .i64 ((rd_T90 l0_1 x12_1).f3))).trans hx103008_0; replace hx103008_0 := (cell_far (p := ⟨gb103007, 4, none⟩) (by first | (rw [add_block]; exact hn103008_4) | (show (Addr.add _ _).block ≠ _; rw [add_block]; exact hn103008_4) | exact hn103008_4) (.bool true)).trans hx103008_0; clear hn103008_0; clear hn103008_1; clear hn103008_2; clear hn103008_3; clear hn103008_4; replace p103008 := eq_true p103008; replace q103008 := eq_true q103008))
          go_roundg k1
          case measure => have := HK1.out; omega
          case rel => exact ⟨(x5_1), (wrap64 (x12_1 + 1)), (by first | rfl | (simp; done) | (simp [*]; done)), H', ⟨by have := HK1.out; omega⟩, ⟨by (with_reducible repeat (first | apply Kd.R_alloc | apply Kd.R_drewN | apply Kd.R_drew)); exact Kd.R_mono (Kd.R_far (p := ⟨gb103007, 4, none⟩) (Kd.R_far (p := ⟨gb103007, 3, none⟩) (Kd.R_far (p := ⟨gb103007, 2, none⟩) (Kd.R_far (p := ⟨gb103007, 1, none⟩) (Kd.R_far (p := ⟨gb103007, 0, none⟩) (Kd.R_types HO_5.out BK103007.out (by decide)) (fun _ hk => hk.2) (.int .i64 ((rd_T90 l0_1 x12_1).f0))) (fun _ hk => hk.2) (.int .i64 ((rd_T90 l0_1 x12_1).f1))) (fun _ hk => hk.2) (.int .i64 ((rd_T90 l0_1 x12_1).f2))) (fun _ hk => hk.2) (.int .i64 ((rd_T90 l0_1 x12_1).f3))) (fun _ hk => hk.2) (.bool true)) (fun _ hk => trivial)⟩, ⟨by (with_reducible repeat (first | refine blk_drewN ?_ _ | refine blk_drew ?_ | refine blk_alloc ?_ _)); refine blk_far ?_ NB103001_103007.out _; (with_reducible repeat (first | refine blk_drewN ?_ _ | refine blk_drew ?_ | refine blk_alloc ?_ _)); refine blk_far ?_ NB103001_103007.out _; (with_reducible repeat (first | refine blk_drewN ?_ _ | refine blk_drew ?_ | refine blk_alloc ?_ _)); refine blk_far ?_ NB103001_103007.out _; (with_reducible repeat (first | refine blk_drewN ?_ _ | refine blk_drew ?_ | refine blk_alloc ?_ _)); refine blk_far ?_ NB103001_103007.out _; (with_reducible repeat (first | refine blk_drewN ?_ _ | refine blk_drew ?_ | refine blk_alloc ?_ _)); refine blk_far ?_ NB103001_103007.out _; (with_reducible repeat (first | refine blk_drewN ?_ _ | refine blk_drew ?_ | refine blk_alloc ?_ _)); exact BK103001.out⟩, ⟨by (with_reducible repeat (first | refine blk_drewN ?_ _ | refine blk_drew ?_ | refine blk_alloc ?_ _)); refine blk_far ?_ NB103002_103007.out _; (with_reducible repeat (first | refine blk_drewN ?_ _ | refine blk_drew ?_ | refine blk_alloc ?_ _)); refine blk_far ?_ NB103002_103007.out _; (with_reducible repeat (first | refine blk_drewN ?_ _ | refine blk_drew ?_ | refine blk_alloc ?_ _)); refine blk_far ?_ NB103002_103007.out _; (with_reducible repeat (first | refine blk_drewN ?_ _ | refine blk_drew ?_ | refine blk_alloc ?_ _)); refine blk_far ?_ NB103002_103007.out _; (with_reducible repeat (first | refine blk_drewN ?_ _ | refine blk_drew ?_ | refine blk_alloc ?_ _)); refine blk_far ?_ NB103002_103007.out _; (with_reducible repeat (first | refine blk_drewN ?_ _ | refine blk_drew ?_ | refine blk_alloc ?_ _)); exact BK103002.out⟩, ⟨by repeat (first | (with_reducible first | exact HB.out | apply below_alloc | apply pw_below_drewN | apply below_drew1 | refine below_set ?_ GE103001.out | refine below_set ?_ GE103002.out | refine below_set ?_ GE103007.out) | exact HB.out)⟩⟩
         ·rw [if_neg c16] at H
          have c16b0 : ((rd l1_1 ((rd_T90 l0_1 x12_1).f0)) == (-1)) = false := beq_eq_false_iff_ne.mpr c16
          have c16b1 : ((rd l1_1 ((rd_T90 l0_1 x12_1).f0)) != (-1)) = true := bne_iff_ne.mpr c16
          by_cases c23 : 0 ≤ ((rd_T90 l0_1 x12_1).f1)
          ·rw [if_pos c23] at H
           have c23b0 : decide (0 ≤ ((rd_T90 l0_1 x12_1).f1)) = true := decide_eq_true c23
           clear c23
           by_cases c24 : ((rd_T90 l0_1 x12_1).f1) < (l1_1.length : Int)
           ·rw [if_pos c24] at H
            have c24b0 : decide (((rd_T90 l0_1 x12_1).f1) < (l1_1.length : Int)) = true := decide_eq_true c24
            clear c24
            by_cases c25 : (rd l1_1 ((rd_T90 l0_1 x12_1).f1)) = (-1)
            ·rw [if_pos c25] at H
             have c25b0 : ((rd l1_1 ((rd_T90 l0_1 x12_1).f1)) == (-1)) = true := beq_iff_eq.mpr c25
             have c25b1 : ((rd l1_1 ((rd_T90 l0_1 x12_1).f1)) != (-1)) = false := bne_eq_false_iff_eq.mpr c25
             clear c25
             by_cases c26 : x5_1.length < 17592186044416
             ·rw [if_pos c26] at H
              have LMc26 := Aside0.mk c26; clear c26
              obtain ⟨y103010, hy103010⟩ : ∃ y_ : List Int, y_ = (x5_1 ++ [x12_1]) := ⟨_, rfl⟩
              replace H : (spec_l13Active.l0 k1 y103010 l0_1 (l0_1.length : Int) (wrap64 (x12_1 + 1)) a1_0 l1_1 l1_2) = some r := by first | (rw [hy103010]; with_reducible exact H) | (have H2_ := (Option.bind_some _ _).symm.trans H; rw [hy103010]; with_reducible exact H2_) | (have H2_ := (Option.bind_some _ _).symm.trans H; with_reducible exact H2_) | with_reducible exact H | (rw [hy103010]; exact H) | exact H
              have Ny103010 := Aside0.mk hy103010; clear hy103010
              have H' := Aside0.mk H
              clear H
              have p103006 : 0 ≤ (x12_1 : Int) := of_decide_eq_true (by first | (with_reducible assumption) | assumption)
              have q103006 : x12_1 < (l0_1.length : Int) := of_decide_eq_true (by first | (with_reducible assumption) | assumption)
              obtain ⟨ad103006, e103006, hx103006_0, hx103006_1, hx103006_2, hx103006_3, hx103006_4⟩ := at_T90 HR0_1.out x12_1 p103006 q103006
              (try rw [← Nbq12.out] at hx103006_4)
              cases e103006
              replace hx103006_0 := (HB.out.cell (World.block_lt_of_cell? w _ hx103006_0)).trans hx103006_0
              replace hx103006_1 := (HB.out.cell (World.block_lt_of_cell? w _ hx103006_1)).trans hx103006_1
              replace hx103006_2 := (HB.out.cell (World.block_lt_of_cell? w _ hx103006_2)).trans hx103006_2
              replace hx103006_3 := (HB.out.cell (World.block_lt_of_cell? w _ hx103006_3)).trans hx103006_3
              replace hx103006_4 := (HB.out.cell (World.block_lt_of_cell? w _ hx103006_4)).trans hx103006_4
              replace p103006 := eq_true p103006
              replace q103006 := eq_true q103006
              go_wp2_with (first | ((with_reducible refine gate_dst (N := 7) rfl ?_); refine box_event ?hg (N := 7) ?hd (cs := #[.int .i64 0, .int .i64 0, .int .i64 0, .int .i64 0, .bool false]) (t := 90) ?hr ?_; (case hd => rfl); (case hg => rfl); (case hr => first | (go_simp; done) | (go_simp; rfl)); intro gb103007 hg w27 hbox hb; have n0_ := Aside0.mk (Kd.R_below (by (with_reducible repeat (first | apply Kd.R_alloc | apply Kd.R_drewN | apply Kd.R_drew)); exact HO_5.out) hb); have n1_ := Aside0.mk (blk_below (g := gb103001) (o := .cells #[.slice A0_0 l0_0.length c0_0, .slice (some ad103006) l0_1.length c0_1, .int .i64 a0_2] 35 (0, 0)) (by (with_reducible repeat (first | refine blk_drewN ?_ _ | refine blk_drew ?_ | refine blk_alloc ?_ _)); exact BK103001.out) hb); have n2_ := Aside0.mk (blk_below (g := gb103002) (o := .cells #[.int .i64 a1_0, .slice A1_1 l1_1.length c1_1, .slice A1_2 l1_2.length c1_2] 66 (0, 0)) (by (with_reducible repeat (first | refine blk_drewN ?_ _ | refine blk_drew ?_ | refine blk_alloc ?_ _)); exact BK103002.out) hb); have n3_ := Aside0.mk (below_step (by repeat (first | (with_reducible first | exact HB.out | apply below_alloc | apply pw_below_drewN | apply below_drew1 | refine below_set ?_ GE103001.out | refine below_set ?_ GE103002.out) | exact HB.out)) hb); have n4_ := Aside0.mk (hbox); have n5_ := Aside0.mk ((by rw [hg]; exact (below_size (by repeat (first | (with_reducible first | exact HB.out | apply below_alloc | apply pw_below_drewN | apply below_drew1 | refine below_set ?_ GE103001.out | refine below_set ?_ GE103002.out) | exact HB.out))) : w.heap.size ≤ gb103007)); have n6_ := Aside0.mk ((by rw [hg]; exact (below_size (by repeat (first | (with_reducible first | exact HB.out | apply below_alloc | apply pw_below_drewN | apply below_drew1 | refine below_set ?_ GE103001.out | refine below_set ?_ GE103002.out) | exact HB.out))) : w.heap.size ≤ gb103007)); have n7_ := Aside0.mk ((by rw [hg]; exact Nat.ne_of_lt (blk_lt (g := gb103001) (o := .cells #[.slice A0_0 l0_0.length c0_0, .slice (some ad103006) l0_1.length c0_1, .int .i64 a0_2] 35 (0, 0)) (by (with_reducible repeat (first | refine blk_drewN ?_ _ | refine blk_drew ?_ | refine blk_alloc ?_ _)); exact BK103001.out)) : gb103001 ≠ gb103007)); have n8_ := Aside0.mk ((by rw [hg]; exact Nat.ne_of_gt (blk_lt (g := gb103001) (o := .cells #[.slice A0_0 l0_0.length c0_0, .slice (some ad103006) l0_1.length c0_1, .int .i64 a0_2] 35 (0, 0)) (by (with_reducible repeat (first | refine blk_drewN ?_ _ | refine blk_drew ?_ | refine blk_alloc ?_ _)); exact BK103001.out)) : gb103007 ≠ gb103001)); have n9_ := Aside0.mk ((by rw [hg]; exact Nat.ne_of_lt (blk_lt (g := gb103002) (o := .cells #[.int .i64 a1_0, .slice A1_1 l1_1.length c1_1, .slice A1_2 l1_2.length c1_2] 66 (0, 0)) (by (with_reducible repeat (first | refine blk_drewN ?_ _ | refine blk_drew ?_ | refine blk_alloc ?_ _)); exact BK103002.out)) : gb103002 ≠ gb103007)); have n10_ := Aside0.mk ((by rw [hg]; exact Nat.ne_of_gt (blk_lt (g := gb103002) (o := .cells #[.int .i64 a1_0, .slice A1_1 l1_1.length c1_1, .slice A1_2 l1_2.length c1_2] 66 (0, 0)) (by (with_reducible repeat (first | refine blk_drewN ?_ _ | refine blk_drew ?_ | refine blk_alloc ?_ _)); exact BK103002.out)) : gb103007 ≠ gb103002)); clear HO_5; clear BK103001; clear BK103002; clear HB; have HO_5 := n0_; have BK103001 := n1_; have BK103002 := n2_; have HB := n3_; have BK103007 := n4_; have GW103007 := n5_; have GE103007 := n6_; have NB103001_103007 := n7_; have NB103007_103001 := n8_; have NB103002_103007 := n9_; have NB103007_103002 := n10_; clear n0_ n1_ n2_ n3_ n4_ n5_ n6_ n7_ n8_ n9_ n10_; clear hb hbox hg; have hnb28 := NB103007_103001.out; have hnc28 := NB103001_103007.out; have hnb29 := NB103007_103002.out; have hnc29 := NB103002_103007.out; have hcz30_0 : w27.cell? ⟨gb103007, 0, none⟩ = some (.int .i64 0) := (blk_cell BK103007.out 0).trans rfl; have hcz30_1 : w27.cell? ⟨gb103007, 1, none⟩ = some (.int .i64 0) := (blk_cell BK103007.out 1).trans rfl; have hcz30_2 : w27.cell? ⟨gb103007, 2, none⟩ = some (.int .i64 0) := (blk_cell BK103007.out 2).trans rfl; have hcz30_3 : w27.cell? ⟨gb103007, 3, none⟩ = some (.int .i64 0) := (blk_cell BK103007.out 3).trans rfl; have hcz30_4 : w27.cell? ⟨gb103007, 4, none⟩ = some (.bool false) := (blk_cell BK103007.out 4).trans rfl; have hfz30_0 := blk_frozen BK103007.out 0; have hfz30_1 := blk_frozen BK103007.out 1; have hfz30_2 := blk_frozen BK103007.out 2; have hfz30_3 := blk_frozen BK103007.out 3; have hfz30_4 := blk_frozen BK103007.out 4; have hnb31 := NB103002_103001.out; have hnc31 := NB103001_103002.out; have hcz32_0 : w27.cell? ⟨gb103002, 0, none⟩ = some (.int .i64 a1_0) := (blk_cell BK103002.out 0).trans rfl; have hcz32_1 : w27.cell? ⟨gb103002, 1, none⟩ = some (.slice A1_1 l1_1.length c1_1) := (blk_cell BK103002.out 1).trans rfl; have hcz32_2 : w27.cell? ⟨gb103002, 2, none⟩ = some (.slice A1_2 l1_2.length c1_2) := (blk_cell BK103002.out 2).trans rfl; have hfz32_0 := blk_frozen BK103002.out 0; have hfz32_1 := blk_frozen BK103002.out 1; have hfz32_2 := blk_frozen BK103002.out 2; have p103008 : 0 ≤ (((rd_T90 l0_1 x12_1).f0) : Int) := of_decide_eq_true (by first | (with_reducible assumption) | assumption); have q103008 : ((rd_T90 l0_1 x12_1).f0) < (l1_1.length : Int) := of_decide_eq_true (by first | (with_reducible assumption) | assumption); obtain ⟨ad103008, e103008, hx103008_0⟩ := Kd.at_int HR1_1.out ((rd_T90 l0_1 x12_1).f0) p103008 q103008; cases e103008; have hn103008_0 : ad103008.block ≠ gb103007 := Nat.ne_of_lt (Nat.lt_of_lt_of_le (by have := World.block_lt_of_cell? _ _ hx103008_0; first | rwa [add_block] at this | exact this) GW103007.out); have hn103008_1 : ad103008.block ≠ gb103007 := Nat.ne_of_lt (Nat.lt_of_lt_of_le (by have := World.block_lt_of_cell? _ _ hx103008_0; first | rwa [add_block] at this | exact this) GW103007.out); have hn103008_2 : ad103008.block ≠ gb103007 := Nat.ne_of_lt (Nat.lt_of_lt_of_le (by have := World.block_lt_of_cell? _ _ hx103008_0; first | rwa [add_block] at this | exact this) GW103007.out); have hn103008_3 : ad103008.block ≠ gb103007 := Nat.ne_of_lt (Nat.lt_of_lt_of_le (by have := World.block_lt_of_cell? _ _ hx103008_0; first | rwa [add_block] at this | exact this) GW103007.out); have hn103008_4 : ad103008.block ≠ gb103007 := Nat.ne_of_lt (Nat.lt_of_lt_of_le (by have := World.block_lt_of_cell? _ _ hx103008_0; first | rwa [add_block] at this | exact this) GW103007.out); replace hx103008_0 := (HB.out.cell (World.block_lt_of_cell? w _ hx103008_0)).trans hx103008_0; replace hx103008_0 := (cell_far (p := ⟨gb103007, 0, none⟩) (by first | (rw [add_block]; exact hn103008_0) | (show (Addr.add _ _).block ≠ _; rw [add_block]; exact hn103008_0) | exact hn103008_0) (.int .i64 ((rd_T90 l0_1 x12_1).f0))).trans hx103008_0; replace hx103008_0 := (cell_far (p := ⟨gb103007, 1, none⟩) (by first | (rw [add_block]; exact hn103008_1) | (show (Addr.add _ _).block ≠ _; rw [add_block]; exact hn103008_1) | exact hn103008_1) (.int .i64 ((rd_T90 l0_1 x12_1).f1))).trans hx103008_0; replace hx103008_0 := (cell_far (p := ⟨gb103007, 2, none⟩) (by first | (rw [add_block]; exact hn103008_2) | (show (Addr.add _ _).block ≠ _; rw [add_block]; exact hn103008_2) | exact hn103008_2) (.int .i64 ((rd_T90 l0_1 x12_1).f2))).trans hx103008_0; replace hx103008_0 := (cell_far (p := ⟨gb103007, 3, none⟩) (by first | (rw [add_block]; exact hn103008_3) | (show (Addr.add _ _).block ≠ _; rw [add_block]; exact hn103008_3) | exact hn103008_3) (.int .i64 ((rd_T90 l0_1 x12_1).f3))).trans hx103008_0; replace hx103008_0 := (cell_far (p := ⟨gb103007, 4, none⟩) (by first | (rw [add_block]; exact hn103008_4) | (show (Addr.add _ _).block ≠ _; rw [add_block]; exact hn103008_4) | exact hn103008_4) (.bool true)).trans hx103008_0; clear hn103008_0; clear hn103008_1; clear hn103008_2; clear hn103008_3; clear hn103008_4; replace p103008 := eq_true p103008; replace q103008 := eq_true q103008; have p103009 : 0 ≤ (((rd_T90 l0_1 x12_1).f1) : Int) := of_decide_eq_true (by first | (with_reducible assumption) | assumption); have q103009 : ((rd_T90 l0_1 x12_1).f1) < (l1_1.length : Int) := of_decide_eq_true (by first | (with_reducible assumption) | assumption); obtain ⟨ad103009, e103009, hx103009_0⟩ := Kd.at_int HR1_1.out ((rd_T90 l0_1 x12_1).f1) p103009 q103009; obtain rfl : ad103008 = ad103009 := (by injection e103009); have hn103009_0 : ad103008.block ≠ gb103007 := Nat.ne_of_lt (Nat.lt_of_lt_of_le (by have := World.block_lt_of_cell? _ _ hx103009_0; first | rwa [add_block] at this | exact this) GW103007.out); have hn103009_1 : ad103008.block ≠ gb103007 := Nat.ne_of_lt (Nat.lt_of_lt_of_le (by have := World.block_lt_of_cell? _ _ hx103009_0; first | rwa [add_block] at this | exact this) GW103007.out); have hn103009_2 : ad103008.block ≠ gb103007 := Nat.ne_of_lt (Nat.lt_of_lt_of_le (by have := World.block_lt_of_cell? _ _ hx103009_0; first | rwa [add_block] at this | exact this) GW103007.out); have hn103009_3 : ad103008.block ≠ gb103007 := Nat.ne_of_lt (Nat.lt_of_lt_of_le (by have := World.block_lt_of_cell? _ _ hx103009_0; first | rwa [add_block] at this | exact this) GW103007.out); have hn103009_4 : ad103008.block ≠ gb103007 := Nat.ne_of_lt (Nat.lt_of_lt_of_le (by have := World.block_lt_of_cell? _ _ hx103009_0; first | rwa [add_block] at this | exact this) GW103007.out); replace hx103009_0 := (HB.out.cell (World.block_lt_of_cell? w _ hx103009_0)).trans hx103009_0; replace hx103009_0 := (cell_far (p := ⟨gb103007, 0, none⟩) (by first | (rw [add_block]; exact hn103009_0) | (show (Addr.add _ _).block ≠ _; rw [add_block]; exact hn103009_0) | exact hn103009_0) (.int .i64 ((rd_T90 l0_1 x12_1).f0))).trans hx103009_0; replace hx103009_0 := (cell_far (p := ⟨gb103007, 1, none⟩) (by first | (rw [add_block]; exact hn103009_1) | (show (Addr.add _ _).block ≠ _; rw [add_block]; exact hn103009_1) | exact hn103009_1) (.int .i64 ((rd_T90 l0_1 x12_1).f1))).trans hx103009_0; replace hx103009_0 := (cell_far (p := ⟨gb103007, 2, none⟩) (by first | (rw [add_block]; exact hn103009_2) | (show (Addr.add _ _).block ≠ _; rw [add_block]; exact hn103009_2) | exact hn103009_2) (.int .i64 ((rd_T90 l0_1 x12_1).f2))).trans hx103009_0; replace hx103009_0 := (cell_far (p := ⟨gb103007, 3, none⟩) (by first | (rw [add_block]; exact hn103009_3) | (show (Addr.add _ _).block ≠ _; rw [add_block]; exact hn103009_3) | exact hn103009_3) (.int .i64 ((rd_T90 l0_1 x12_1).f3))).trans hx103009_0; replace hx103009_0 := (cell_far (p := ⟨gb103007, 4, none⟩) (by first | (rw [add_block]; exact hn103009_4) | (show (Addr.add _ _).block ≠ _; rw [add_block]; exact hn103009_4) | exact hn103009_4) (.bool true)).trans hx103009_0; clear hn103009_0; clear hn103009_1; clear hn103009_2; clear hn103009_3; clear hn103009_4; replace p103009 := eq_true p103009; replace q103009 := eq_true q103009) | ((with_reducible refine gate_builtin (b := .append) (xs := #[.tmp 37, .tmp 39]) rfl ?_); at_builtin; refine Kd.R_append (Kd.int .i64) (w0 := w) w.heap.size rfl (.tmp 37) (.tmp 39) 26 3 (.int .i64 0) 8 rfl Try.underlying26 info3 rfl (by decide) (by omega) u5 x5_1 x12_1 [.int .i64 x12_1] (fun _ => True) (fun _ => False) rfl (by first | (go_simp; done) | (go_simp; rfl)) ?aP (fun _ hk => hk.elim) ?aF ?aO ?aB ?aS ?aL ?_; (case aP => exact rfl); (case aB => exact (by repeat (first | (with_reducible first | exact HB.out | apply below_alloc | apply pw_below_drewN | apply below_drew1 | refine below_set ?_ GE103001.out | refine below_set ?_ GE103002.out | refine below_set ?_ GE103007.out) | exact HB.out))); (case aF => exact (fun _ _ => trivial)); (case aO => exact (by (with_reducible repeat (first | apply Kd.R_alloc | apply Kd.R_drewN | apply Kd.R_drew)); exact Kd.R_mono (Kd.R_far (p := ⟨gb103007, 4, none⟩) (Kd.R_far (p := ⟨gb103007, 3, none⟩) (Kd.R_far (p := ⟨gb103007, 2, none⟩) (Kd.R_far (p := ⟨gb103007, 1, none⟩) (Kd.R_far (p := ⟨gb103007, 0, none⟩) (Kd.R_types HO_5.out BK103007.out (by decide)) (fun _ hk => hk.2) (.int .i64 ((rd_T90 l0_1 x12_1).f0))) (fun _ hk => hk.2) (.int .i64 ((rd_T90 l0_1 x12_1).f1))) (fun _ hk => hk.2) (.int .i64 ((rd_T90 l0_1 x12_1).f2))) (fun _ hk => hk.2) (.int .i64 ((rd_T90 l0_1 x12_1).f3))) (fun _ hk => hk.2) (.bool true)) (fun _ hk => trivial))); (case aS => exact (below_size (by repeat (first | (with_reducible first | exact HB.out | apply below_alloc | apply pw_below_drewN | apply below_drew1 | refine below_set ?_ GE103001.out | refine below_set ?_ GE103002.out | refine below_set ?_ GE103007.out) | exact HB.out)))); (case aL => have := LMc26.out; omega); intro v103011 w33 ho hb hg hat; rw [← Ny103010.out] at ho; have n0_ := Aside0.mk (blk_grown (g := gb103001) (o := .cells #[.slice A0_0 l0_0.length c0_0, .slice (some ad103006) l0_1.length c0_1, .int .i64 a0_2] 35 (0, 0)) (by (with_reducible repeat (first | refine blk_drewN ?_ _ | refine blk_drew ?_ | refine blk_alloc ?_ _)); refine blk_far ?_ NB103001_103007.out _; (with_reducible repeat (first | refine blk_drewN ?_ _ | refine blk_drew ?_ | refine blk_alloc ?_ _)); refine blk_far ?_ NB103001_103007.out _; (with_reducible repeat (first | refine blk_drewN ?_ _ | refine blk_drew ?_ | refine blk_alloc ?_ _)); refine blk_far ?_ NB103001_103007.out _; (with_reducible repeat (first | refine blk_drewN ?_ _ | refine blk_drew ?_ | refine blk_alloc ?_ _)); refine blk_far ?_ NB103001_103007.out _; (with_reducible repeat (first | refine blk_drewN ?_ _ | refine blk_drew ?_ | refine blk_alloc ?_ _)); refine blk_far ?_ NB103001_103007.out _; (with_reducible repeat (first | refine blk_drewN ?_ _ | refine blk_drew ?_ | refine blk_alloc ?_ _)); exact BK103001.out) hg (Kd.R_ne HO_5.out BK103001.out (by decide))); have n1_ := Aside0.mk (blk_grown (g := gb103002) (o := .cells #[.int .i64 a1_0, .slice (some ad103008) l1_1.length c1_1, .slice A1_2 l1_2.length c1_2] 66 (0, 0)) (by (with_reducible repeat (first | refine blk_drewN ?_ _ | refine blk_drew ?_ | refine blk_alloc ?_ _)); refine blk_far ?_ NB103002_103007.out _; (with_reducible repeat (first | refine blk_drewN ?_ _ | refine blk_drew ?_ | refine blk_alloc ?_ _)); refine blk_far ?_ NB103002_103007.out _; (with_reducible repeat (first | refine blk_drewN ?_ _ | refine blk_drew ?_ | refine blk_alloc ?_ _)); refine blk_far ?_ NB103002_103007.out _; (with_reducible repeat (first | refine blk_drewN ?_ _ | refine blk_drew ?_ | refine blk_alloc ?_ _)); refine blk_far ?_ NB103002_103007.out _; (with_reducible repeat (first | refine blk_drewN ?_ _ | refine blk_drew ?_ | refine blk_alloc ?_ _)); refine blk_far ?_ NB103002_103007.out _; (with_reducible repeat (first | refine blk_drewN ?_ _ | refine blk_drew ?_ | refine blk_alloc ?_ _)); exact BK103002.out) hg (Kd.R_ne HO_5.out BK103002.out (by decide))); have n2_ := Aside0.mk (blk_grown (g := gb103007) (o := .cells #[.int .i64 ((rd_T90 l0_1 x12_1).f0), .int .i64 ((rd_T90 l0_1 x12_1).f1), .int .i64 ((rd_T90 l0_1 x12_1).f2), .int .i64 ((rd_T90 l0_1 x12_1).f3), .bool true] 90 (0, 0)) (by (with_reducible repeat (first | refine blk_drewN ?_ _ | refine blk_drew ?_ | refine blk_alloc ?_ _)); refine blk_put (cs := #[.int .i64 ((rd_T90 l0_1 x12_1).f0), .int .i64 ((rd_T90 l0_1 x12_1).f1), .int .i64 ((rd_T90 l0_1 x12_1).f2), .int .i64 ((rd_T90 l0_1 x12_1).f3), .bool false]) ?_ 4 _ rfl; (with_reducible repeat (first | refine blk_drewN ?_ _ | refine blk_drew ?_ | refine blk_alloc ?_ _)); refine blk_put (cs := #[.int .i64 ((rd_T90 l0_1 x12_1).f0), .int .i64 ((rd_T90 l0_1 x12_1).f1), .int .i64 ((rd_T90 l0_1 x12_1).f2), .int .i64 0, .bool false]) ?_ 3 _ rfl; (with_reducible repeat (first | refine blk_drewN ?_ _ | refine blk_drew ?_ | refine blk_alloc ?_ _)); refine blk_put (cs := #[.int .i64 ((rd_T90 l0_1 x12_1).f0), .int .i64 ((rd_T90 l0_1 x12_1).f1), .int .i64 0, .int .i64 0, .bool false]) ?_ 2 _ rfl; (with_reducible repeat (first | refine blk_drewN ?_ _ | refine blk_drew ?_ | refine blk_alloc ?_ _)); refine blk_put (cs := #[.int .i64 ((rd_T90 l0_1 x12_1).f0), .int .i64 0, .int .i64 0, .int .i64 0, .bool false]) ?_ 1 _ rfl; (with_reducible repeat (first | refine blk_drewN ?_ _ | refine blk_drew ?_ | refine blk_alloc ?_ _)); refine blk_put (cs := #[.int .i64 0, .int .i64 0, .int .i64 0, .int .i64 0, .bool false]) ?_ 0 _ rfl; (with_reducible repeat (first | refine blk_drewN ?_ _ | refine blk_drew ?_ | refine blk_alloc ?_ _)); exact BK103007.out) hg (Kd.R_ne HO_5.out BK103007.out (by decide))); have n3_ := Aside0.mk (hb); have n4_ := Aside0.mk (ho); clear BK103001; clear BK103002; clear BK103007; clear HB; clear HO_5; have BK103001 := n0_; have BK103002 := n1_; have BK103007 := n2_; have HB := n3_; have HO103012 := n4_; clear n0_ n1_ n2_ n3_ n4_; clear ho hb hg hat))
              go_roundg k1
              case measure => have := HK1.out; omega
              case rel => exact ⟨(y103010), (wrap64 (x12_1 + 1)), (by first | rfl | (simp; done) | (simp [*]; done)), H', ⟨by have := HK1.out; omega⟩, ⟨by (with_reducible repeat (first | apply Kd.R_alloc | apply Kd.R_drewN | apply Kd.R_drew)); exact HO103012.out⟩, ⟨by (with_reducible repeat (first | refine blk_drewN ?_ _ | refine blk_drew ?_ | refine blk_alloc ?_ _)); exact BK103001.out⟩, ⟨by (with_reducible repeat (first | refine blk_drewN ?_ _ | refine blk_drew ?_ | refine blk_alloc ?_ _)); exact BK103002.out⟩, ⟨by repeat (first | (with_reducible first | exact HB.out | apply below_alloc | apply pw_below_drewN | apply below_drew1 | refine below_set ?_ GE103001.out | refine below_set ?_ GE103002.out | refine below_set ?_ GE103007.out) | exact HB.out)⟩⟩
             ·rw [if_neg c26] at H
              exact absurd H (by simp)
            ·rw [if_neg c25] at H
             have c25b0 : ((rd l1_1 ((rd_T90 l0_1 x12_1).f1)) == (-1)) = false := beq_eq_false_iff_ne.mpr c25
             have c25b1 : ((rd l1_1 ((rd_T90 l0_1 x12_1).f1)) != (-1)) = true := bne_iff_ne.mpr c25
             have H' := Aside0.mk H
             clear H
             have p103006 : 0 ≤ (x12_1 : Int) := of_decide_eq_true (by first | (with_reducible assumption) | assumption)
             have q103006 : x12_1 < (l0_1.length : Int) := of_decide_eq_true (by first | (with_reducible assumption) | assumption)
             obtain ⟨ad103006, e103006, hx103006_0, hx103006_1, hx103006_2, hx103006_3, hx103006_4⟩ := at_T90 HR0_1.out x12_1 p103006 q103006
             (try rw [← Nbq12.out] at hx103006_4)
             cases e103006
             replace hx103006_0 := (HB.out.cell (World.block_lt_of_cell? w _ hx103006_0)).trans hx103006_0
             replace hx103006_1 := (HB.out.cell (World.block_lt_of_cell? w _ hx103006_1)).trans hx103006_1
             replace hx103006_2 := (HB.out.cell (World.block_lt_of_cell? w _ hx103006_2)).trans hx103006_2
             replace hx103006_3 := (HB.out.cell (World.block_lt_of_cell? w _ hx103006_3)).trans hx103006_3
             replace hx103006_4 := (HB.out.cell (World.block_lt_of_cell? w _ hx103006_4)).trans hx103006_4
             replace p103006 := eq_true p103006
             replace q103006 := eq_true q103006
             go_wp2_with (first | ((with_reducible refine gate_dst (N := 7) rfl ?_); refine box_event ?hg (N := 7) ?hd (cs := #[.int .i64 0, .int .i64 0, .int .i64 0, .int .i64 0, .bool false]) (t := 90) ?hr ?_; (case hd => rfl); (case hg => rfl); (case hr => first | (go_simp; done) | (go_simp; rfl)); intro gb103007 hg w34 hbox hb; have n0_ := Aside0.mk (Kd.R_below (by (with_reducible repeat (first | apply Kd.R_alloc | apply Kd.R_drewN | apply Kd.R_drew)); exact HO_5.out) hb); have n1_ := Aside0.mk (blk_below (g := gb103001) (o := .cells #[.slice A0_0 l0_0.length c0_0, .slice (some ad103006) l0_1.length c0_1, .int .i64 a0_2] 35 (0, 0)) (by (with_reducible repeat (first | refine blk_drewN ?_ _ | refine blk_drew ?_ | refine blk_alloc ?_ _)); exact BK103001.out) hb); have n2_ := Aside0.mk (blk_below (g := gb103002) (o := .cells #[.int .i64 a1_0, .slice A1_1 l1_1.length c1_1, .slice A1_2 l1_2.length c1_2] 66 (0, 0)) (by (with_reducible repeat (first | refine blk_drewN ?_ _ | refine blk_drew ?_ | refine blk_alloc ?_ _)); exact BK103002.out) hb); have n3_ := Aside0.mk (below_step (by repeat (first | (with_reducible first | exact HB.out | apply below_alloc | apply pw_below_drewN | apply below_drew1 | refine below_set ?_ GE103001.out | refine below_set ?_ GE103002.out) | exact HB.out)) hb); have n4_ := Aside0.mk (hbox); have n5_ := Aside0.mk ((by rw [hg]; exact (below_size (by repeat (first | (with_reducible first | exact HB.out | apply below_alloc | apply pw_below_drewN | apply below_drew1 | refine below_set ?_ GE103001.out | refine below_set ?_ GE103002.out) | exact HB.out))) : w.heap.size ≤ gb103007)); have n6_ := Aside0.mk ((by rw [hg]; exact (below_size (by repeat (first | (with_reducible first | exact HB.out | apply below_alloc | apply pw_below_drewN | apply below_drew1 | refine below_set ?_ GE103001.out | refine below_set ?_ GE103002.out) | exact HB.out))) : w.heap.size ≤ gb103007)); have n7_ := Aside0.mk ((by rw [hg]; exact Nat.ne_of_lt (blk_lt (g := gb103001) (o := .cells #[.slice A0_0 l0_0.length c0_0, .slice (some ad103006) l0_1.length c0_1, .int .i64 a0_2] 35 (0, 0)) (by (with_reducible repeat (first | refine blk_drewN ?_ _ | refine blk_drew ?_ | refine blk_alloc ?_ _)); exact BK103001.out)) : gb103001 ≠ gb103007)); have n8_ := Aside0.mk ((by rw [hg]; exact Nat.ne_of_gt (blk_lt (g := gb103001) (o := .cells #[.slice A0_0 l0_0.length c0_0, .slice (some ad103006) l0_1.length c0_1, .int .i64 a0_2] 35 (0, 0)) (by (with_reducible repeat (first | refine blk_drewN ?_ _ | refine blk_drew ?_ | refine blk_alloc ?_ _)); exact BK103001.out)) : gb103007 ≠ gb103001)); have n9_ := Aside0.mk ((by rw [hg]; exact Nat.ne_of_lt (blk_lt (g := gb103002) (o := .cells #[.int .i64 a1_0, .slice A1_1 l1_1.length c1_1, .slice A1_2 l1_2.length c1_2] 66 (0, 0)) (by (with_reducible repeat (first | refine blk_drewN ?_ _ | refine blk_drew ?_ | refine blk_alloc ?_ _)); exact BK103002.out)) : gb103002 ≠ gb103007)); have n10_ := Aside0.mk ((by rw [hg]; exact Nat.ne_of_gt (blk_lt (g := gb103002) (o := .cells #[.int .i64 a1_0, .slice A1_1 l1_1.length c1_1, .slice A1_2 l1_2.length c1_2] 66 (0, 0)) (by (with_reducible repeat (first | refine blk_drewN ?_ _ | refine blk_drew ?_ | refine blk_alloc ?_ _)); exact BK103002.out)) : gb103007 ≠ gb103002)); clear HO_5; clear BK103001; clear BK103002; clear HB; have HO_5 := n0_; have BK103001 := n1_; have BK103002 := n2_; have HB := n3_; have BK103007 := n4_; have GW103007 := n5_; have GE103007 := n6_; have NB103001_103007 := n7_; have NB103007_103001 := n8_; have NB103002_103007 := n9_; have NB103007_103002 := n10_; clear n0_ n1_ n2_ n3_ n4_ n5_ n6_ n7_ n8_ n9_ n10_; clear hb hbox hg; have hnb35 := NB103007_103001.out; have hnc35 := NB103001_103007.out; have hnb36 := NB103007_103002.out; have hnc36 := NB103002_103007.out; have hcz37_0 : w34.cell? ⟨gb103007, 0, none⟩ = some (.int .i64 0) := (blk_cell BK103007.out 0).trans rfl; have hcz37_1 : w34.cell? ⟨gb103007, 1, none⟩ = some (.int .i64 0) := (blk_cell BK103007.out 1).trans rfl; have hcz37_2 : w34.cell? ⟨gb103007, 2, none⟩ = some (.int .i64 0) := (blk_cell BK103007.out 2).trans rfl; have hcz37_3 : w34.cell? ⟨gb103007, 3, none⟩ = some (.int .i64 0) := (blk_cell BK103007.out 3).trans rfl; have hcz37_4 : w34.cell? ⟨gb103007, 4, none⟩ = some (.bool false) := (blk_cell BK103007.out 4).trans rfl; have hfz37_0 := blk_frozen BK103007.out 0; have hfz37_1 := blk_frozen BK103007.out 1; have hfz37_2 := blk_frozen BK103007.out 2; have hfz37_3 := blk_frozen BK103007.out 3; have hfz37_4 := blk_frozen BK103007.out 4; have hnb38 := NB103002_103001.out; have hnc38 := NB103001_103002.out; have hcz39_0 : w34.cell? ⟨gb103002, 0, none⟩ = some (.int .i64 a1_0) := (blk_cell BK103002.out 0).trans rfl; have hcz39_1 : w34.cell? ⟨gb103002, 1, none⟩ = some (.slice A1_1 l1_1.length c1_1) := (blk_cell BK103002.out 1).trans rfl; have hcz39_2 : w34.cell? ⟨gb103002, 2, none⟩ = some (.slice A1_2 l1_2.length c1_2) := (blk_cell BK103002.out 2).trans rfl; have hfz39_0 := blk_frozen BK103002.out 0; have hfz39_1 := blk_frozen BK103002.out 1; have hfz39_2 := blk_frozen BK103002.out 2; have p103008 : 0 ≤ (((rd_T90 l0_1 x12_1).f0) : Int) := of_decide_eq_true (by first | (with_reducible assumption) | assumption); have q103008 : ((rd_T90 l0_1 x12_1).f0) < (l1_1.length : Int) := of_decide_eq_true (by first | (with_reducible assumption) | assumption); obtain ⟨ad103008, e103008, hx103008_0⟩ := Kd.at_int HR1_1.out ((rd_T90 l0_1 x12_1).f0) p103008 q103008; cases e103008; have hn103008_0 : ad103008.block ≠ gb103007 := Nat.ne_of_lt (Nat.lt_of_lt_of_le (by have := World.block_lt_of_cell? _ _ hx103008_0; first | rwa [add_block] at this | exact this) GW103007.out); have hn103008_1 : ad103008.block ≠ gb103007 := Nat.ne_of_lt (Nat.lt_of_lt_of_le (by have := World.block_lt_of_cell? _ _ hx103008_0; first | rwa [add_block] at this | exact this) GW103007.out); have hn103008_2 : ad103008.block ≠ gb103007 := Nat.ne_of_lt (Nat.lt_of_lt_of_le (by have := World.block_lt_of_cell? _ _ hx103008_0; first | rwa [add_block] at this | exact this) GW103007.out); have hn103008_3 : ad103008.block ≠ gb103007 := Nat.ne_of_lt (Nat.lt_of_lt_of_le (by have := World.block_lt_of_cell? _ _ hx103008_0; first | rwa [add_block] at this | exact this) GW103007.out); have hn103008_4 : ad103008.block ≠ gb103007 := Nat.ne_of_lt (Nat.lt_of_lt_of_le (by have := World.block_lt_of_cell? _ _ hx103008_0; first | rwa [add_block] at this | exact this) GW103007.out); replace hx103008_0 := (HB.out.cell (World.block_lt_of_cell? w _ hx103008_0)).trans hx103008_0; replace hx103008_0 := (cell_far (p := ⟨gb103007, 0, none⟩) (by first | (rw [add_block]; exact hn103008_0) | (show (Addr.add _ _).block ≠ _; rw [add_block]; exact hn103008_0) | exact hn103008_0) (.int .i64 ((rd_T90 l0_1 x12_1).f0))).trans hx103008_0; replace hx103008_0 := (cell_far (p := ⟨gb103007, 1, none⟩) (by first | (rw [add_block]; exact hn103008_1) | (show (Addr.add _ _).block ≠ _; rw [add_block]; exact hn103008_1) | exact hn103008_1) (.int .i64 ((rd_T90 l0_1 x12_1).f1))).trans hx103008_0; replace hx103008_0 := (cell_far (p := ⟨gb103007, 2, none⟩) (by first | (rw [add_block]; exact hn103008_2) | (show (Addr.add _ _).block ≠ _; rw [add_block]; exact hn103008_2) | exact hn103008_2) (.int .i64 ((rd_T90 l0_1 x12_1).f2))).trans hx103008_0; replace hx103008_0 := (cell_far (p := ⟨gb103007, 3, none⟩) (by first | (rw [add_block]; exact hn103008_3) | (show (Addr.add _ _).block ≠ _; rw [add_block]; exact hn103008_3) | exact hn103008_3) (.int .i64 ((rd_T90 l0_1 x12_1).f3))).trans hx103008_0; replace hx103008_0 := (cell_far (p := ⟨gb103007, 4, none⟩) (by first | (rw [add_block]; exact hn103008_4) | (show (Addr.add _ _).block ≠ _; rw [add_block]; exact hn103008_4) | exact hn103008_4) (.bool true)).trans hx103008_0; clear hn103008_0; clear hn103008_1; clear hn103008_2; clear hn103008_3; clear hn103008_4; replace p103008 := eq_true p103008; replace q103008 := eq_true q103008; have p103009 : 0 ≤ (((rd_T90 l0_1 x12_1).f1) : Int) := of_decide_eq_true (by first | (with_reducible assumption) | assumption); have q103009 : ((rd_T90 l0_1 x12_1).f1) < (l1_1.length : Int) := of_decide_eq_true (by first | (with_reducible assumption) | assumption); obtain ⟨ad103009, e103009, hx103009_0⟩ := Kd.at_int HR1_1.out ((rd_T90 l0_1 x12_1).f1) p103009 q103009; obtain rfl : ad103008 = ad103009 := (by injection e103009); have hn103009_0 : ad103008.block ≠ gb103007 := Nat.ne_of_lt (Nat.lt_of_lt_of_le (by have := World.block_lt_of_cell? _ _ hx103009_0; first | rwa [add_block] at this | exact this) GW103007.out); have hn103009_1 : ad103008.block ≠ gb103007 := Nat.ne_of_lt (Nat.lt_of_lt_of_le (by have := World.block_lt_of_cell? _ _ hx103009_0; first | rwa [add_block] at this | exact this) GW103007.out); have hn103009_2 : ad103008.block ≠ gb103007 := Nat.ne_of_lt (Nat.lt_of_lt_of_le (by have := World.block_lt_of_cell? _ _ hx103009_0; first | rwa [add_block] at this | exact this) GW103007.out); have hn103009_3 : ad103008.block ≠ gb103007 := Nat.ne_of_lt (Nat.lt_of_lt_of_le (by have := World.block_lt_of_cell? _ _ hx103009_0; first | rwa [add_block] at this | exact this) GW103007.out); have hn103009_4 : ad103008.block ≠ gb103007 := Nat.ne_of_lt (Nat.lt_of_lt_of_le (by have := World.block_lt_of_cell? _ _ hx103009_0; first | rwa [add_block] at this | exact this) GW103007.out); replace hx103009_0 := (HB.out.cell (World.block_lt_of_cell? w _ hx103009_0)).trans hx103009_0; replace hx103009_0 := (cell_far (p := ⟨gb103007, 0, none⟩) (by first | (rw [add_block]; exact hn103009_0) | (show (Addr.add _ _).block ≠ _; rw [add_block]; exact hn103009_0) | exact hn103009_0) (.int .i64 ((rd_T90 l0_1 x12_1).f0))).trans hx103009_0; replace hx103009_0 := (cell_far (p := ⟨gb103007, 1, none⟩) (by first | (rw [add_block]; exact hn103009_1) | (show (Addr.add _ _).block ≠ _; rw [add_block]; exact hn103009_1) | exact hn103009_1) (.int .i64 ((rd_T90 l0_1 x12_1).f1))).trans hx103009_0; replace hx103009_0 := (cell_far (p := ⟨gb103007, 2, none⟩) (by first | (rw [add_block]; exact hn103009_2) | (show (Addr.add _ _).block ≠ _; rw [add_block]; exact hn103009_2) | exact hn103009_2) (.int .i64 ((rd_T90 l0_1 x12_1).f2))).trans hx103009_0; replace hx103009_0 := (cell_far (p := ⟨gb103007, 3, none⟩) (by first | (rw [add_block]; exact hn103009_3) | (show (Addr.add _ _).block ≠ _; rw [add_block]; exact hn103009_3) | exact hn103009_3) (.int .i64 ((rd_T90 l0_1 x12_1).f3))).trans hx103009_0; replace hx103009_0 := (cell_far (p := ⟨gb103007, 4, none⟩) (by first | (rw [add_block]; exact hn103009_4) | (show (Addr.add _ _).block ≠ _; rw [add_block]; exact hn103009_4) | exact hn103009_4) (.bool true)).trans hx103009_0; clear hn103009_0; clear hn103009_1; clear hn103009_2; clear hn103009_3; clear hn103009_4; replace p103009 := eq_true p103009; replace q103009 := eq_true q103009))
             go_roundg k1
             case measure => have := HK1.out; omega
             case rel => exact ⟨(x5_1), (wrap64 (x12_1 + 1)), (by first | rfl | (simp; done) | (simp [*]; done)), H', ⟨by have := HK1.out; omega⟩, ⟨by (with_reducible repeat (first | apply Kd.R_alloc | apply Kd.R_drewN | apply Kd.R_drew)); exact Kd.R_mono (Kd.R_far (p := ⟨gb103007, 4, none⟩) (Kd.R_far (p := ⟨gb103007, 3, none⟩) (Kd.R_far (p := ⟨gb103007, 2, none⟩) (Kd.R_far (p := ⟨gb103007, 1, none⟩) (Kd.R_far (p := ⟨gb103007, 0, none⟩) (Kd.R_types HO_5.out BK103007.out (by decide)) (fun _ hk => hk.2) (.int .i64 ((rd_T90 l0_1 x12_1).f0))) (fun _ hk => hk.2) (.int .i64 ((rd_T90 l0_1 x12_1).f1))) (fun _ hk => hk.2) (.int .i64 ((rd_T90 l0_1 x12_1).f2))) (fun _ hk => hk.2) (.int .i64 ((rd_T90 l0_1 x12_1).f3))) (fun _ hk => hk.2) (.bool true)) (fun _ hk => trivial)⟩, ⟨by (with_reducible repeat (first | refine blk_drewN ?_ _ | refine blk_drew ?_ | refine blk_alloc ?_ _)); refine blk_far ?_ NB103001_103007.out _; (with_reducible repeat (first | refine blk_drewN ?_ _ | refine blk_drew ?_ | refine blk_alloc ?_ _)); refine blk_far ?_ NB103001_103007.out _; (with_reducible repeat (first | refine blk_drewN ?_ _ | refine blk_drew ?_ | refine blk_alloc ?_ _)); refine blk_far ?_ NB103001_103007.out _; (with_reducible repeat (first | refine blk_drewN ?_ _ | refine blk_drew ?_ | refine blk_alloc ?_ _)); refine blk_far ?_ NB103001_103007.out _; (with_reducible repeat (first | refine blk_drewN ?_ _ | refine blk_drew ?_ | refine blk_alloc ?_ _)); refine blk_far ?_ NB103001_103007.out _; (with_reducible repeat (first | refine blk_drewN ?_ _ | refine blk_drew ?_ | refine blk_alloc ?_ _)); exact BK103001.out⟩, ⟨by (with_reducible repeat (first | refine blk_drewN ?_ _ | refine blk_drew ?_ | refine blk_alloc ?_ _)); refine blk_far ?_ NB103002_103007.out _; (with_reducible repeat (first | refine blk_drewN ?_ _ | refine blk_drew ?_ | refine blk_alloc ?_ _)); refine blk_far ?_ NB103002_103007.out _; (with_reducible repeat (first | refine blk_drewN ?_ _ | refine blk_drew ?_ | refine blk_alloc ?_ _)); refine blk_far ?_ NB103002_103007.out _; (with_reducible repeat (first | refine blk_drewN ?_ _ | refine blk_drew ?_ | refine blk_alloc ?_ _)); refine blk_far ?_ NB103002_103007.out _; (with_reducible repeat (first | refine blk_drewN ?_ _ | refine blk_drew ?_ | refine blk_alloc ?_ _)); refine blk_far ?_ NB103002_103007.out _; (with_reducible repeat (first | refine blk_drewN ?_ _ | refine blk_drew ?_ | refine blk_alloc ?_ _)); exact BK103002.out⟩, ⟨by repeat (first | (with_reducible first | exact HB.out | apply below_alloc | apply pw_below_drewN | apply below_drew1 | refine below_set ?_ GE103001.out | refine below_set ?_ GE103002.out | refine below_set ?_ GE103007.out) | exact HB.out)⟩⟩
           ·rw [if_neg c24] at H
            exact absurd H (by simp)
          ·rw [if_neg c23] at H
           exact absurd H (by simp)
        ·rw [if_neg c15] at H
         exact absurd H (by simp)
       ·rw [if_neg c14] at H
        exact absurd H (by simp)
      ·replace c13 := Bool.eq_false_iff.mpr c13
       subst c13
       have H1 : (spec_l13Active.l0 k1 x5_1 l0_1 (l0_1.length : Int) (wrap64 (x12_1 + 1)) a1_0 l1_1 l1_2) = some r := by rw [if_neg (show ¬ (false = true) by decide)] at H; exact H
       clear H
       have H := H1
       clear H1
       have H' := Aside0.mk H
       clear H
       have p103006 : 0 ≤ (x12_1 : Int) := of_decide_eq_true (by first | (with_reducible assumption) | assumption)
       have q103006 : x12_1 < (l0_1.length : Int) := of_decide_eq_true (by first | (with_reducible assumption) | assumption)
       obtain ⟨ad103006, e103006, hx103006_0, hx103006_1, hx103006_2, hx103006_3, hx103006_4⟩ := at_T90 HR0_1.out x12_1 p103006 q103006
       (try rw [← Nbq12.out] at hx103006_4)
       cases e103006
       replace hx103006_0 := (HB.out.cell (World.block_lt_of_cell? w _ hx103006_0)).trans hx103006_0
       replace hx103006_1 := (HB.out.cell (World.block_lt_of_cell? w _ hx103006_1)).trans hx103006_1
       replace hx103006_2 := (HB.out.cell (World.block_lt_of_cell? w _ hx103006_2)).trans hx103006_2
       replace hx103006_3 := (HB.out.cell (World.block_lt_of_cell? w _ hx103006_3)).trans hx103006_3
       replace hx103006_4 := (HB.out.cell (World.block_lt_of_cell? w _ hx103006_4)).trans hx103006_4
       replace p103006 := eq_true p103006
       replace q103006 := eq_true q103006
       go_wp2_with (first | ((with_reducible refine gate_dst (N := 7) rfl ?_); refine box_event ?hg (N := 7) ?hd (cs := #[.int .i64 0, .int .i64 0, .int .i64 0, .int .i64 0, .bool false]) (t := 90) ?hr ?_; (case hd => rfl); (case hg => rfl); (case hr => first | (go_simp; done) | (go_simp; rfl)); intro gb103007 hg w40 hbox hb; have n0_ := Aside0.mk (Kd.R_below (by (with_reducible repeat (first | apply Kd.R_alloc | apply Kd.R_drewN | apply Kd.R_drew)); exact HO_5.out) hb); have n1_ := Aside0.mk (blk_below (g := gb103001) (o := .cells #[.slice A0_0 l0_0.length c0_0, .slice (some ad103006) l0_1.length c0_1, .int .i64 a0_2] 35 (0, 0)) (by (with_reducible repeat (first | refine blk_drewN ?_ _ | refine blk_drew ?_ | refine blk_alloc ?_ _)); exact BK103001.out) hb); have n2_ := Aside0.mk (blk_below (g := gb103002) (o := .cells #[.int .i64 a1_0, .slice A1_1 l1_1.length c1_1, .slice A1_2 l1_2.length c1_2] 66 (0, 0)) (by (with_reducible repeat (first | refine blk_drewN ?_ _ | refine blk_drew ?_ | refine blk_alloc ?_ _)); exact BK103002.out) hb); have n3_ := Aside0.mk (below_step (by repeat (first | (with_reducible first | exact HB.out | apply below_alloc | apply pw_below_drewN | apply below_drew1 | refine below_set ?_ GE103001.out | refine below_set ?_ GE103002.out) | exact HB.out)) hb); have n4_ := Aside0.mk (hbox); have n5_ := Aside0.mk ((by rw [hg]; exact (below_size (by repeat (first | (with_reducible first | exact HB.out | apply below_alloc | apply pw_below_drewN | apply below_drew1 | refine below_set ?_ GE103001.out | refine below_set ?_ GE103002.out) | exact HB.out))) : w.heap.size ≤ gb103007)); have n6_ := Aside0.mk ((by rw [hg]; exact (below_size (by repeat (first | (with_reducible first | exact HB.out | apply below_alloc | apply pw_below_drewN | apply below_drew1 | refine below_set ?_ GE103001.out | refine below_set ?_ GE103002.out) | exact HB.out))) : w.heap.size ≤ gb103007)); have n7_ := Aside0.mk ((by rw [hg]; exact Nat.ne_of_lt (blk_lt (g := gb103001) (o := .cells #[.slice A0_0 l0_0.length c0_0, .slice (some ad103006) l0_1.length c0_1, .int .i64 a0_2] 35 (0, 0)) (by (with_reducible repeat (first | refine blk_drewN ?_ _ | refine blk_drew ?_ | refine blk_alloc ?_ _)); exact BK103001.out)) : gb103001 ≠ gb103007)); have n8_ := Aside0.mk ((by rw [hg]; exact Nat.ne_of_gt (blk_lt (g := gb103001) (o := .cells #[.slice A0_0 l0_0.length c0_0, .slice (some ad103006) l0_1.length c0_1, .int .i64 a0_2] 35 (0, 0)) (by (with_reducible repeat (first | refine blk_drewN ?_ _ | refine blk_drew ?_ | refine blk_alloc ?_ _)); exact BK103001.out)) : gb103007 ≠ gb103001)); have n9_ := Aside0.mk ((by rw [hg]; exact Nat.ne_of_lt (blk_lt (g := gb103002) (o := .cells #[.int .i64 a1_0, .slice A1_1 l1_1.length c1_1, .slice A1_2 l1_2.length c1_2] 66 (0, 0)) (by (with_reducible repeat (first | refine blk_drewN ?_ _ | refine blk_drew ?_ | refine blk_alloc ?_ _)); exact BK103002.out)) : gb103002 ≠ gb103007)); have n10_ := Aside0.mk ((by rw [hg]; exact Nat.ne_of_gt (blk_lt (g := gb103002) (o := .cells #[.int .i64 a1_0, .slice A1_1 l1_1.length c1_1, .slice A1_2 l1_2.length c1_2] 66 (0, 0)) (by (with_reducible repeat (first | refine blk_drewN ?_ _ | refine blk_drew ?_ | refine blk_alloc ?_ _)); exact BK103002.out)) : gb103007 ≠ gb103002)); clear HO_5; clear BK103001; clear BK103002; clear HB; have HO_5 := n0_; have BK103001 := n1_; have BK103002 := n2_; have HB := n3_; have BK103007 := n4_; have GW103007 := n5_; have GE103007 := n6_; have NB103001_103007 := n7_; have NB103007_103001 := n8_; have NB103002_103007 := n9_; have NB103007_103002 := n10_; clear n0_ n1_ n2_ n3_ n4_ n5_ n6_ n7_ n8_ n9_ n10_; clear hb hbox hg; have hnb41 := NB103007_103001.out; have hnc41 := NB103001_103007.out; have hnb42 := NB103007_103002.out; have hnc42 := NB103002_103007.out; have hcz43_0 : w40.cell? ⟨gb103007, 0, none⟩ = some (.int .i64 0) := (blk_cell BK103007.out 0).trans rfl; have hcz43_1 : w40.cell? ⟨gb103007, 1, none⟩ = some (.int .i64 0) := (blk_cell BK103007.out 1).trans rfl; have hcz43_2 : w40.cell? ⟨gb103007, 2, none⟩ = some (.int .i64 0) := (blk_cell BK103007.out 2).trans rfl; have hcz43_3 : w40.cell? ⟨gb103007, 3, none⟩ = some (.int .i64 0) := (blk_cell BK103007.out 3).trans rfl; have hcz43_4 : w40.cell? ⟨gb103007, 4, none⟩ = some (.bool false) := (blk_cell BK103007.out 4).trans rfl; have hfz43_0 := blk_frozen BK103007.out 0; have hfz43_1 := blk_frozen BK103007.out 1; have hfz43_2 := blk_frozen BK103007.out 2; have hfz43_3 := blk_frozen BK103007.out 3; have hfz43_4 := blk_frozen BK103007.out 4))
       go_roundg k1
       case measure => have := HK1.out; omega
       case rel => exact ⟨(x5_1), (wrap64 (x12_1 + 1)), (by first | rfl | (simp; done) | (simp [*]; done)), H', ⟨by have := HK1.out; omega⟩, ⟨by (with_reducible repeat (first | apply Kd.R_alloc | apply Kd.R_drewN | apply Kd.R_drew)); exact Kd.R_mono (Kd.R_far (p := ⟨gb103007, 4, none⟩) (Kd.R_far (p := ⟨gb103007, 3, none⟩) (Kd.R_far (p := ⟨gb103007, 2, none⟩) (Kd.R_far (p := ⟨gb103007, 1, none⟩) (Kd.R_far (p := ⟨gb103007, 0, none⟩) (Kd.R_types HO_5.out BK103007.out (by decide)) (fun _ hk => hk.2) (.int .i64 ((rd_T90 l0_1 x12_1).f0))) (fun _ hk => hk.2) (.int .i64 ((rd_T90 l0_1 x12_1).f1))) (fun _ hk => hk.2) (.int .i64 ((rd_T90 l0_1 x12_1).f2))) (fun _ hk => hk.2) (.int .i64 ((rd_T90 l0_1 x12_1).f3))) (fun _ hk => hk.2) (.bool false)) (fun _ hk => trivial)⟩, ⟨by (with_reducible repeat (first | refine blk_drewN ?_ _ | refine blk_drew ?_ | refine blk_alloc ?_ _)); refine blk_far ?_ NB103001_103007.out _; (with_reducible repeat (first | refine blk_drewN ?_ _ | refine blk_drew ?_ | refine blk_alloc ?_ _)); refine blk_far ?_ NB103001_103007.out _; (with_reducible repeat (first | refine blk_drewN ?_ _ | refine blk_drew ?_ | refine blk_alloc ?_ _)); refine blk_far ?_ NB103001_103007.out _; (with_reducible repeat (first | refine blk_drewN ?_ _ | refine blk_drew ?_ | refine blk_alloc ?_ _)); refine blk_far ?_ NB103001_103007.out _; (with_reducible repeat (first | refine blk_drewN ?_ _ | refine blk_drew ?_ | refine blk_alloc ?_ _)); refine blk_far ?_ NB103001_103007.out _; (with_reducible repeat (first | refine blk_drewN ?_ _ | refine blk_drew ?_ | refine blk_alloc ?_ _)); exact BK103001.out⟩, ⟨by (with_reducible repeat (first | refine blk_drewN ?_ _ | refine blk_drew ?_ | refine blk_alloc ?_ _)); refine blk_far ?_ NB103002_103007.out _; (with_reducible repeat (first | refine blk_drewN ?_ _ | refine blk_drew ?_ | refine blk_alloc ?_ _)); refine blk_far ?_ NB103002_103007.out _; (with_reducible repeat (first | refine blk_drewN ?_ _ | refine blk_drew ?_ | refine blk_alloc ?_ _)); refine blk_far ?_ NB103002_103007.out _; (with_reducible repeat (first | refine blk_drewN ?_ _ | refine blk_drew ?_ | refine blk_alloc ?_ _)); refine blk_far ?_ NB103002_103007.out _; (with_reducible repeat (first | refine blk_drewN ?_ _ | refine blk_drew ?_ | refine blk_alloc ?_ _)); refine blk_far ?_ NB103002_103007.out _; (with_reducible repeat (first | refine blk_drewN ?_ _ | refine blk_drew ?_ | refine blk_alloc ?_ _)); exact BK103002.out⟩, ⟨by repeat (first | (with_reducible first | exact HB.out | apply below_alloc | apply pw_below_drewN | apply below_drew1 | refine below_set ?_ GE103001.out | refine below_set ?_ GE103002.out | refine below_set ?_ GE103007.out) | exact HB.out)⟩⟩
     ·rw [if_neg c11] at H
      exact absurd H (by simp)
    ·rw [if_neg c10] at H
     exact absurd H (by simp)
   ·rw [if_neg c9] at H
    have c9b0 : decide (x12_1 < (l0_1.length : Int)) = false := decide_eq_false c9
    clear c9
    obtain rfl := Option.some.inj H
    go_wp2
    go_ret
    exact ⟨_, by first | rfl | (simp [errW_none, errW_some] <;> rfl) | (simp [*, errW_none, errW_some] <;> rfl), by (with_reducible repeat (first | apply Kd.R_alloc | apply Kd.R_drewN | apply Kd.R_drew)); exact HO_5.out, by repeat (first | (with_reducible first | exact HB.out | apply below_alloc | apply pw_below_drewN | apply below_drew1 | refine below_set ?_ GE103001.out | refine below_set ?_ GE103002.out) | exact HB.out)⟩

end Go.Proofs.Ytodfnelilhjoeaa.Pr

namespace Go.Proofs.Ytodfnelilhjoeaa.Pr
open Go.RowKit Go.Proofs.YtodfnelilhjoeaaW.PrintWords Go.Proofs.YtodfnelilhjoeaaW.PrintLast Go.Proofs.YtodfnelilhjoeaaW.PrintMore
attribute [local go_sem] max2_int min2_int max_two min_two max_three min_three max_four min_four
set_option linter.unusedVariables false
set_option linter.unusedSimpArgs false

/-! ### spec_l01In: function 68 -/
def spec_l01In.f (a0 : Int) (a1 : Int) (a2 : Int) : Option (Bool) := if a0 ≥ a1 then (some (decide (a0 ≤ a2))) else (some false)
set_option maxHeartbeats 8000000 in
set_option maxRecDepth 100000 in
theorem spec_l01In.calls (a0 : Int) (a1 : Int) (a2 : Int) (r : Bool) (w : World) (h : spec_l01In.f a0 a1 a2 = some r) :
  Calls Try.prog 68 #[.int .i64 a0, .int .i64 a1, .int .i64 a2] w fun e w' => e = .returned (.bool r) ∧ Drawn0 w w' := by
 have H : (if a0 ≥ a1 then (some (decide (a0 ≤ a2))) else (some false)) = some r := h
 clear h
 by_cases c4 : a0 ≥ a1
 ·rw [if_pos c4] at H
  have c4b0 : decide (a1 ≤ a0) = true := decide_eq_true c4
  clear c4
  obtain rfl := Option.some.inj H
  go_enter Try.func68, Try.ntmps68
  go_wp2
  go_ret
  exact ⟨by first | rfl | (simp; done) | (simp [*]; done), by repeat (first | exact Drawn0.refl _ | apply Drawn0.step)⟩
 ·rw [if_neg c4] at H
  have c4b0 : decide (a1 ≤ a0) = false := decide_eq_false c4
  clear c4
  obtain rfl := Option.some.inj H
  go_enter Try.func68, Try.ntmps68
  go_wp2
  go_ret
  exact ⟨by first | rfl | (simp; done) | (simp [*]; done), by repeat (first | exact Drawn0.refl _ | apply Drawn0.step)⟩

end Go.Proofs.Ytodfnelilhjoeaa.Pr

namespace Go.Proofs.Ytodfnelilhjoeaa.Pr
open Go.RowKit Go.Proofs.YtodfnelilhjoeaaW.PrintWords Go.Proofs.YtodfnelilhjoeaaW.PrintLast Go.Proofs.YtodfnelilhjoeaaW.PrintMore
attribute [local go_sem] max2_int min2_int max_two min_two max_three min_three max_four min_four
set_option linter.unusedVariables false
set_option linter.unusedSimpArgs false

/-! ### spec_ValuesOk: function 140 -/
def spec_ValuesOk.l0 : Nat → List Int → List Int → Int → Int → Option (Bool)
 | 0, _, _, _, _ => none
 | k + 1, x0, x5, x6, x7 => if x7 < x6 then (if 0 ≤ x7 then (if x7 < (x5.length : Int) then ((spec_l01In.f (rd x5 x7) (-1) 1).bind fun t140002 => (if t140002 = true then (spec_ValuesOk.l0 k x0 x5 x6 (wrap64 (x7 + 1))) else (some false))) else (none)) else (none)) else (some ((x0.length : Int) == 3))
def spec_ValuesOk.f (k : Nat) (l0 : List Int) : Option (Bool) := spec_ValuesOk.l0 k l0 l0 (l0.length : Int) 0
set_option maxHeartbeats 8000000 in
set_option maxRecDepth 100000 in
theorem spec_ValuesOk.calls (k : Nat) (A0 : Option Addr) (c0 : Nat) (l0 : List Int) (r : Bool) (w : World) (hr0 : Kd.C (Kd.int .i64) w A0 l0.length l0) (hc0 : l0.length ≤ c0) (h : spec_ValuesOk.f k l0 = some r) :
  Calls Try.prog 140 #[.slice A0 l0.length c0] w fun e w' => e = .returned (.bool r) ∧ Drawn0 w w' := by
 have HR0 := Aside0.mk hr0; have HC0 := Aside0.mk hc0; clear hr0 hc0
 have H : (spec_ValuesOk.l0 k l0 l0 (l0.length : Int) 0) = some r := h
 clear h
 have H' := Aside0.mk H
 clear H
 go_enter Try.func140, Try.ntmps140
 go_wp2
 go_loopg [7] k (fun kq v7 w' => ∃ (x7_1 : Int), v7 = .int .i64 x7_1 ∧ Aside0 (spec_ValuesOk.l0 kq l0 l0 (l0.length : Int) x7_1 = some r) ∧ Aside0 (kq ≤ k) ∧ Drawn0 w w')
 case atStart => exact ⟨(0), (by first | rfl | (simp; done) | (simp [*]; done)), H', ⟨Nat.le_refl _⟩, by repeat (first | exact Drawn0.refl _ | apply Drawn0.step)⟩
 case round =>
  clear H'
  try clear c1
  obtain ⟨x7_1, rfl, HA, HK1, ⟨m1, rfl⟩⟩ := hrel
  cases gk with
  | zero => exact absurd HA.out (by simp [spec_ValuesOk.l0])
  | succ k1 =>
   have H := HA.out
   clear HA
   simp only [spec_ValuesOk.l0] at H
   by_cases c2 : x7_1 < (l0.length : Int)
   ·rw [if_pos c2] at H
    have c2b0 : decide (x7_1 < (l0.length : Int)) = true := decide_eq_true c2
    clear c2
    by_cases c3 : 0 ≤ x7_1
    ·rw [if_pos c3] at H
     have c3b0 : decide (0 ≤ x7_1) = true := decide_eq_true c3
     clear c3
     by_cases c4 : x7_1 < (l0.length : Int)
     ·rw [if_pos c4] at H
      have c4b0 : decide (x7_1 < (l0.length : Int)) = true := decide_eq_true c4
      clear c4
      replace H := Option.bind_eq_some_iff.mp H
      obtain ⟨t140002, A50, H⟩ := H
      replace H : (if t140002 = true then (spec_ValuesOk.l0 k1 l0 l0 (l0.length : Int) (wrap64 (x7_1 + 1))) else (some false)) = some r := H
      have A5 := Aside0.mk A50; clear A50
      by_cases c6 : t140002 = true
      ·subst c6
       have H1 : (spec_ValuesOk.l0 k1 l0 l0 (l0.length : Int) (wrap64 (x7_1 + 1))) = some r := by rw [if_pos rfl] at H; exact H
       clear H
       have H := H1
       clear H1
       have H' := Aside0.mk H
       clear H
       have p140001 : 0 ≤ (x7_1 : Int) := of_decide_eq_true (by first | (with_reducible assumption) | assumption)
       have q140001 : x7_1 < (l0.length : Int) := of_decide_eq_true (by first | (with_reducible assumption) | assumption)
       obtain ⟨ad140001, e140001, hx140001_0⟩ := Kd.at_int HR0.out x7_1 p140001 q140001
       cases e140001
       replace p140001 := eq_true p140001
       replace q140001 := eq_true q140001
       go_wp2_with (first | ((with_reducible refine gate_callee (f := 68) rfl ?_); refine goesL_ (some 12) rfl rfl Try.func68 (by kernel_rfl) rfl #[.int .i64 (rd l0 x7_1), .int .i64 (-1), .int .i64 1] rfl (by (try simp only [List.map_toArray, List.map_cons, List.map_nil]); first | done | rfl | (simp only [List.length_drop, List.length_take]; rfl)) ?_; (with_reducible refine (spec_l01In.calls (rd l0 x7_1) (-1) 1 true _ A5.out).mono ?_); rintro e w' ⟨rfl, ⟨nd, rfl⟩⟩; refine ⟨_, rfl, ?_⟩))
       go_roundg k1
       case measure => have := HK1.out; omega
       case rel => exact ⟨(wrap64 (x7_1 + 1)), (by first | rfl | (simp; done) | (simp [*]; done)), H', ⟨by have := HK1.out; omega⟩, by repeat (first | exact Drawn0.refl _ | apply Drawn0.step)⟩
      ·replace c6 := Bool.eq_false_iff.mpr c6
       subst c6
       have H1 : (some false) = some r := by rw [if_neg (show ¬ (false = true) by decide)] at H; exact H
       clear H
       have H := H1
       clear H1
       obtain rfl := Option.some.inj H
       have p140001 : 0 ≤ (x7_1 : Int) := of_decide_eq_true (by first | (with_reducible assumption) | assumption)
       have q140001 : x7_1 < (l0.length : Int) := of_decide_eq_true (by first | (with_reducible assumption) | assumption)
       obtain ⟨ad140001, e140001, hx140001_0⟩ := Kd.at_int HR0.out x7_1 p140001 q140001
       cases e140001
       replace p140001 := eq_true p140001
       replace q140001 := eq_true q140001
       go_wp2_with (first | ((with_reducible refine gate_callee (f := 68) rfl ?_); refine goesL_ (some 12) rfl rfl Try.func68 (by kernel_rfl) rfl #[.int .i64 (rd l0 x7_1), .int .i64 (-1), .int .i64 1] rfl (by (try simp only [List.map_toArray, List.map_cons, List.map_nil]); first | done | rfl | (simp only [List.length_drop, List.length_take]; rfl)) ?_; (with_reducible refine (spec_l01In.calls (rd l0 x7_1) (-1) 1 false _ A5.out).mono ?_); rintro e w' ⟨rfl, ⟨nd, rfl⟩⟩; refine ⟨_, rfl, ?_⟩))
       go_ret
       exact ⟨by first | rfl | (simp; done) | (simp [*]; done), by repeat (first | exact Drawn0.refl _ | apply Drawn0.step)⟩
     ·rw [if_neg c4] at H
      exact absurd H (by simp)
    ·rw [if_neg c3] at H
     exact absurd H (by simp)
   ·rw [if_neg c2] at H
    have c2b0 : decide (x7_1 < (l0.length : Int)) = false := decide_eq_false c2
    clear c2
    obtain rfl := Option.some.inj H
    go_wp2
    go_ret
    exact ⟨by first | rfl | (simp; done) | (simp [*]; done), by repeat (first | exact Drawn0.refl _ | apply Drawn0.step)⟩

end Go.Proofs.Ytodfnelilhjoeaa.Pr

namespace Go.Proofs.Ytodfnelilhjoeaa.Pr
open Go.RowKit Go.Proofs.YtodfnelilhjoeaaW.PrintWords Go.Proofs.YtodfnelilhjoeaaW.PrintLast Go.Proofs.YtodfnelilhjoeaaW.PrintMore
attribute [local go_sem] max2_int min2_int max_two min_two max_three min_three max_four min_four
set_option linter.unusedVariables false
set_option linter.unusedSimpArgs false

/-! ### spec_NodeNamed: function 154 -/
def spec_NodeNamed.l0 : Nat → ByteArray → List (S116) → Int → Int → Option (Int)
 | 0, _, _, _, _ => none
 | k + 1, x1, x8, x9, x10 => if x10 < x9 then (if 0 ≤ x10 then (if x10 < (x8.length : Int) then (if ((rd_T116 x8 x10).f0).toList = x1.toList then (some x10) else (spec_NodeNamed.l0 k x1 x8 x9 (wrap64 (x10 + 1)))) else (none)) else (none)) else (some (-1))
def spec_NodeNamed.f (k : Nat) (l0_0 : List (S116)) (l0_1 : List (S90)) (a0_2 : Int) (a1 : ByteArray) : Option (Int) := spec_NodeNamed.l0 k a1 l0_0 (l0_0.length : Int) 0
set_option maxHeartbeats 8000000 in
set_option maxRecDepth 100000 in
theorem spec_NodeNamed.calls (k : Nat) (A0_0 : Option Addr) (c0_0 : Nat) (l0_0 : List (S116)) (A0_1 : Option Addr) (c0_1 : Nat) (l0_1 : List (S90)) (a0_2 : Int) (a1 : ByteArray) (r : Int) (w : World) (hr0_0 : Kd.C k116 w A0_0 l0_0.length l0_0) (hc0_0 : l0_0.length ≤ c0_0) (hr0_1 : Kd.C k90 w A0_1 l0_1.length l0_1) (hc0_1 : l0_1.length ≤ c0_1) (h : spec_NodeNamed.f k l0_0 l0_1 a0_2 a1 = some r) :
  Calls Try.prog 154 #[.agg #[.slice A0_0 l0_0.length c0_0, .slice A0_1 l0_1.length c0_1, .int .i64 a0_2], .string a1] w fun e w' => e = .returned (.int .i64 r) ∧ Below w.heap.size w w' := by
 have hu35 := Try.underlying35
 have hu116 := Try.underlying116
 have HR0_0 := Aside0.mk hr0_0; have HC0_0 := Aside0.mk hc0_0; clear hr0_0 hc0_0; have HR0_1 := Aside0.mk hr0_1; have HC0_1 := Aside0.mk hc0_1; clear hr0_1 hc0_1
 have HB := Aside0.mk (Below.refl w.heap.size w)
 have H : (spec_NodeNamed.l0 k a1 l0_0 (l0_0.length : Int) 0) = some r := h
 clear h
 have H' := Aside0.mk H
 clear H
 go_enter Try.func154, Try.ntmps154
 go_wp2_with (first | ((with_reducible refine gate_dst (N := 2) rfl ?_); refine box_event ?hg (N := 2) ?hd (cs := #[.slice A0_0 l0_0.length c0_0, .slice A0_1 l0_1.length c0_1, .int .i64 a0_2]) (t := 35) ?hr ?_; (case hd => rfl); (case hg => rfl); (case hr => first | (go_simp; done) | (go_simp; rfl)); intro gb154001 hg w3 hbox hb; have n0_ := Aside0.mk (below_step (by repeat (first | (with_reducible first | exact HB.out | apply below_alloc | apply pw_below_drewN | apply below_drew1) | exact HB.out)) hb); have n1_ := Aside0.mk (hbox); have n2_ := Aside0.mk ((by rw [hg]; exact (below_size (by repeat (first | (with_reducible first | exact HB.out | apply below_alloc | apply pw_below_drewN | apply below_drew1) | exact HB.out))) : w.heap.size ≤ gb154001)); have n3_ := Aside0.mk ((by rw [hg]; exact (below_size (by repeat (first | (with_reducible first | exact HB.out | apply below_alloc | apply pw_below_drewN | apply below_drew1) | exact HB.out))) : w.heap.size ≤ gb154001)); clear HB; have HB := n0_; have BK154001 := n1_; have GW154001 := n2_; have GE154001 := n3_; clear n0_ n1_ n2_ n3_; clear hb hbox hg; have hcz4_0 : w3.cell? ⟨gb154001, 0, none⟩ = some (.slice A0_0 l0_0.length c0_0) := (blk_cell BK154001.out 0).trans rfl; have hcz4_1 : w3.cell? ⟨gb154001, 1, none⟩ = some (.slice A0_1 l0_1.length c0_1) := (blk_cell BK154001.out 1).trans rfl; have hcz4_2 : w3.cell? ⟨gb154001, 2, none⟩ = some (.int .i64 a0_2) := (blk_cell BK154001.out 2).trans rfl; have hfz4_0 := blk_frozen BK154001.out 0; have hfz4_1 := blk_frozen BK154001.out 1; have hfz4_2 := blk_frozen BK154001.out 2))
 go_loopg [10] k (fun kq v10 w' => ∃ (x10_1 : Int), v10 = .int .i64 x10_1 ∧ Aside0 (spec_NodeNamed.l0 kq a1 l0_0 (l0_0.length : Int) x10_1 = some r) ∧ Aside0 (kq ≤ k) ∧ Aside0 (w'.heap[gb154001]? = some (.cells #[(.slice A0_0 l0_0.length c0_0), (.slice A0_1 l0_1.length c0_1), .int .i64 a0_2] 35 (0, 0))) ∧ Aside0 (Below w.heap.size w w'))
 case atStart => exact ⟨(0), (by first | rfl | (simp; done) | (simp [*]; done)), H', ⟨Nat.le_refl _⟩, ⟨by (with_reducible repeat (first | refine blk_drewN ?_ _ | refine blk_drew ?_ | refine blk_alloc ?_ _)); exact BK154001.out⟩, ⟨by repeat (first | (with_reducible first | exact HB.out | apply below_alloc | apply pw_below_drewN | apply below_drew1 | refine below_set ?_ GE154001.out) | exact HB.out)⟩⟩
 case round =>
  clear H'
  try clear c1
  try clear p2
  try clear hcz4_0
  try clear hcz4_1
  try clear hcz4_2
  try clear hfz4_0
  try clear hfz4_1
  try clear hfz4_2
  obtain ⟨x10_1, rfl, HA, HK1, BK154001, HB⟩ := hrel
  cases gk with
  | zero => exact absurd HA.out (by simp [spec_NodeNamed.l0])
  | succ k1 =>
   have H := HA.out
   clear HA
   simp only [spec_NodeNamed.l0] at H
   by_cases c5 : x10_1 < (l0_0.length : Int)
   ·rw [if_pos c5] at H
    have c5b0 : decide (x10_1 < (l0_0.length : Int)) = true := decide_eq_true c5
    clear c5
    by_cases c6 : 0 ≤ x10_1
    ·rw [if_pos c6] at H
     have c6b0 : decide (0 ≤ x10_1) = true := decide_eq_true c6
     clear c6
     by_cases c7 : x10_1 < (l0_0.length : Int)
     ·rw [if_pos c7] at H
      have c7b0 : decide (x10_1 < (l0_0.length : Int)) = true := decide_eq_true c7
      clear c7
      by_cases c8 : ((rd_T116 l0_0 x10_1).f0).toList = a1.toList
      ·rw [if_pos c8] at H
       have c8b0 : (((rd_T116 l0_0 x10_1).f0).toList == a1.toList) = true := beq_iff_eq.mpr c8
       have c8b1 : (((rd_T116 l0_0 x10_1).f0).toList != a1.toList) = false := bne_eq_false_iff_eq.mpr c8
       clear c8
       obtain rfl := Option.some.inj H
       have p154002 : 0 ≤ (x10_1 : Int) := of_decide_eq_true (by first | (with_reducible assumption) | assumption)
       have q154002 : x10_1 < (l0_0.length : Int) := of_decide_eq_true (by first | (with_reducible assumption) | assumption)
       obtain ⟨ad154002, A154002_1, c154002_1, e154002, hx154002_0, hx154002_1, hx154002_2, hl154002_1, hi154002_1⟩ := at_T116 HR0_0.out x10_1 p154002 q154002
       cases e154002
       replace hx154002_0 := (HB.out.cell (World.block_lt_of_cell? w _ hx154002_0)).trans hx154002_0
       replace hx154002_1 := (HB.out.cell (World.block_lt_of_cell? w _ hx154002_1)).trans hx154002_1
       replace hx154002_2 := (HB.out.cell (World.block_lt_of_cell? w _ hx154002_2)).trans hx154002_2
       have HR154002_1 := Aside0.mk hi154002_1; have HC154002_1 := Aside0.mk hl154002_1; clear hi154002_1 hl154002_1
       replace p154002 := eq_true p154002
       replace q154002 := eq_true q154002
       go_wp2_with (first | ((with_reducible refine gate_dst (N := 6) rfl ?_); refine box_event ?hg (N := 6) ?hd (cs := #[.string (⟨#[]⟩ : ByteArray), .slice none 0 0, .int .i64 0]) (t := 116) ?hr ?_; (case hd => rfl); (case hg => rfl); (case hr => first | (go_simp; done) | (go_simp; rfl)); intro gb154003 hg w9 hbox hb; have n0_ := Aside0.mk (blk_below (g := gb154001) (o := .cells #[.slice (some ad154002) l0_0.length c0_0, .slice A0_1 l0_1.length c0_1, .int .i64 a0_2] 35 (0, 0)) (by (with_reducible repeat (first | refine blk_drewN ?_ _ | refine blk_drew ?_ | refine blk_alloc ?_ _)); exact BK154001.out) hb); have n1_ := Aside0.mk (below_step (by repeat (first | (with_reducible first | exact HB.out | apply below_alloc | apply pw_below_drewN | apply below_drew1 | refine below_set ?_ GE154001.out) | exact HB.out)) hb); have n2_ := Aside0.mk (hbox); have n3_ := Aside0.mk ((by rw [hg]; exact (below_size (by repeat (first | (with_reducible first | exact HB.out | apply below_alloc | apply pw_below_drewN | apply below_drew1 | refine below_set ?_ GE154001.out) | exact HB.out))) : w.heap.size ≤ gb154003)); have n4_ := Aside0.mk ((by rw [hg]; exact (below_size (by repeat (first | (with_reducible first | exact HB.out | apply below_alloc | apply pw_below_drewN | apply below_drew1 | refine below_set ?_ GE154001.out) | exact HB.out))) : w.heap.size ≤ gb154003)); have n5_ := Aside0.mk ((by rw [hg]; exact Nat.ne_of_lt (blk_lt (g := gb154001) (o := .cells #[.slice (some ad154002) l0_0.length c0_0, .slice A0_1 l0_1.length c0_1, .int .i64 a0_2] 35 (0, 0)) (by (with_reducible repeat (first | refine blk_drewN ?_ _ | refine blk_drew ?_ | refine blk_alloc ?_ _)); exact BK154001.out)) : gb154001 ≠ gb154003)); have n6_ := Aside0.mk ((by rw [hg]; exact Nat.ne_of_gt (blk_lt (g := gb154001) (o := .cells #[.slice (some ad154002) l0_0.length c0_0, .slice A0_1 l0_1.length c0_1, .int .i64 a0_2] 35 (0, 0)) (by (with_reducible repeat (first | refine blk_drewN ?_ _ | refine blk_drew ?_ | refine blk_alloc ?_ _)); exact BK154001.out)) : gb154003 ≠ gb154001)); clear BK154001; clear HB; have BK154001 := n0_; have HB := n1_; have BK154003 := n2_; have GW154003 := n3_; have GE154003 := n4_; have NB154001_154003 := n5_; have NB154003_154001 := n6_; clear n0_ n1_ n2_ n3_ n4_ n5_ n6_; clear hb hbox hg; have hnb10 := NB154003_154001.out; have hnc10 := NB154001_154003.out; have hcz11_0 : w9.cell? ⟨gb154003, 0, none⟩ = some (.string (⟨#[]⟩ : ByteArray)) := (blk_cell BK154003.out 0).trans rfl; have hcz11_1 : w9.cell? ⟨gb154003, 1, none⟩ = some (.slice none 0 0) := (blk_cell BK154003.out 1).trans rfl; have hcz11_2 : w9.cell? ⟨gb154003, 2, none⟩ = some (.int .i64 0) := (blk_cell BK154003.out 2).trans rfl; have hfz11_0 := blk_frozen BK154003.out 0; have hfz11_1 := blk_frozen BK154003.out 1; have hfz11_2 := blk_frozen BK154003.out 2))
       go_ret
       exact ⟨by first | rfl | (simp [errW_none, errW_some] <;> rfl) | (simp [*, errW_none, errW_some] <;> rfl), by repeat (first | (with_reducible first | exact HB.out | apply below_alloc | apply pw_below_drewN | apply below_drew1 | refine below_set ?_ GE154001.out | refine below_set ?_ GE154003.out) | exact HB.out)⟩
      ·rw [if_neg c8] at H
       have c8b0 : (((rd_T116 l0_0 x10_1).f0).toList == a1.toList) = false := beq_eq_false_iff_ne.mpr c8
       have c8b1 : (((rd_T116 l0_0 x10_1).f0).toList != a1.toList) = true := bne_iff_ne.mpr c8
       have H' := Aside0.mk H
       clear H
       have p154002 : 0 ≤ (x10_1 : Int) := of_decide_eq_true (by first | (with_reducible assumption) | assumption)
       have q154002 : x10_1 < (l0_0.length : Int) := of_decide_eq_true (by first | (with_reducible assumption) | assumption)
       obtain ⟨ad154002, A154002_1, c154002_1, e154002, hx154002_0, hx154002_1, hx154002_2, hl154002_1, hi154002_1⟩ := at_T116 HR0_0.out x10_1 p154002 q154002
       cases e154002
       replace hx154002_0 := (HB.out.cell (World.block_lt_of_cell? w _ hx154002_0)).trans hx154002_0
       replace hx154002_1 := (HB.out.cell (World.block_lt_of_cell? w _ hx154002_1)).trans hx154002_1
       replace hx154002_2 := (HB.out.cell (World.block_lt_of_cell? w _ hx154002_2)).trans hx154002_2
       have HR154002_1 := Aside0.mk hi154002_1; have HC154002_1 := Aside0.mk hl154002_1; clear hi154002_1 hl154002_1
       replace p154002 := eq_true p154002
       replace q154002 := eq_true q154002
       go_wp2_with (first | ((with_reducible refine gate_dst (N := 6) rfl ?_); refine box_event ?hg (N := 6) ?hd (cs := #[.string (⟨#[]⟩ : ByteArray), .slice none 0 0, .int .i64 0]) (t := 116) ?hr ?_; (case hd => rfl); (case hg => rfl); (case hr => first | (go_simp; done) | (go_simp; rfl)); intro gb154003 hg w12 hbox hb; have n0_ := Aside0.mk (blk_below (g := gb154001) (o := .cells #[.slice (some ad154002) l0_0.length c0_0, .slice A0_1 l0_1.length c0_1, .int .i64 a0_2] 35 (0, 0)) (by (with_reducible repeat (first | refine blk_drewN ?_ _ | refine blk_drew ?_ | refine blk_alloc ?_ _)); exact BK154001.out) hb); have n1_ := Aside0.mk (below_step (by repeat (first | (with_reducible first | exact HB.out | apply below_alloc | apply pw_below_drewN | apply below_drew1 | refine below_set ?_ GE154001.out) | exact HB.out)) hb); have n2_ := Aside0.mk (hbox); have n3_ := Aside0.mk ((by rw [hg]; exact (below_size (by repeat (first | (with_reducible first | exact HB.out | apply below_alloc | apply pw_below_drewN | apply below_drew1 | refine below_set ?_ GE154001.out) | exact HB.out))) : w.heap.size ≤ gb154003)); have n4_ := Aside0.mk ((by rw [hg]; exact (below_size (by repeat (first | (with_reducible first | exact HB.out | apply below_alloc | apply pw_below_drewN | apply below_drew1 | refine below_set ?_ GE154001.out) | exact HB.out))) : w.heap.size ≤ gb154003)); have n5_ := Aside0.mk ((by rw [hg]; exact Nat.ne_of_lt (blk_lt (g := gb154001) (o := .cells #[.slice (some ad154002) l0_0.length c0_0, .slice A0_1 l0_1.length c0_1, .int .i64 a0_2] 35 (0, 0)) (by (with_reducible repeat (first | refine blk_drewN ?_ _ | refine blk_drew ?_ | refine blk_alloc ?_ _)); exact BK154001.out)) : gb154001 ≠ gb154003)); have n6_ := Aside0.mk ((by rw [hg]; exact Nat.ne_of_gt (blk_lt (g := gb154001) (o := .cells #[.slice (some ad154002) l0_0.length c0_0, .slice A0_1 l0_1.length c0_1, .int .i64 a0_2] 35 (0, 0)) (by (with_reducible repeat (first | refine blk_drewN ?_ _ | refine blk_drew ?_ | refine blk_alloc ?_ _)); exact BK154001.out)) : gb154003 ≠ gb154001)); clear BK154001; clear HB; have BK154001 := n0_; have HB := n1_; have BK154003 := n2_; have GW154003 := n3_; have GE154003 := n4_; have NB154001_154003 := n5_; have NB154003_154001 := n6_; clear n0_ n1_ n2_ n3_ n4_ n5_ n6_; clear hb hbox hg; have hnb13 := NB154003_154001.out; have hnc13 := NB154001_154003.out; have hcz14_0 : w12.cell? ⟨gb154003, 0, none⟩ = some (.string (⟨#[]⟩ : ByteArray)) := (blk_cell BK154003.out 0).trans rfl; have hcz14_1 : w12.cell? ⟨gb154003, 1, none⟩ = some (.slice none 0 0) := (blk_cell BK154003.out 1).trans rfl; have hcz14_2 : w12.cell? ⟨gb154003, 2, none⟩ = some (.int .i64 0) := (blk_cell BK154003.out 2).trans rfl; have hfz14_0 := blk_frozen BK154003.out 0; have hfz14_1 := blk_frozen BK154003.out 1; have hfz14_2 := blk_frozen BK154003.out 2))
       go_roundg k1
       case measure => have := HK1.out; omega
       case rel => exact ⟨(wrap64 (x10_1 + 1)), (by first | rfl | (simp; done) | (simp [*]; done)), H', ⟨by have := HK1.out; omega⟩, ⟨by (with_reducible repeat (first | refine blk_drewN ?_ _ | refine blk_drew ?_ | refine blk_alloc ?_ _)); refine blk_far ?_ NB154001_154003.out _; (with_reducible repeat (first | refine blk_drewN ?_ _ | refine blk_drew ?_ | refine blk_alloc ?_ _)); refine blk_far ?_ NB154001_154003.out _; (with_reducible repeat (first | refine blk_drewN ?_ _ | refine blk_drew ?_ | refine blk_alloc ?_ _)); refine blk_far ?_ NB154001_154003.out _; (with_reducible repeat (first | refine blk_drewN ?_ _ | refine blk_drew ?_ | refine blk_alloc ?_ _)); exact BK154001.out⟩, ⟨by repeat (first | (with_reducible first | exact HB.out | apply below_alloc | apply pw_below_drewN | apply below_drew1 | refine below_set ?_ GE154001.out | refine below_set ?_ GE154003.out) | exact HB.out)⟩⟩
     ·rw [if_neg c7] at H
      exact absurd H (by simp)
    ·rw [if_neg c6] at H
     exact absurd H (by simp)
   ·rw [if_neg c5] at H
    have c5b0 : decide (x10_1 < (l0_0.length : Int)) = false := decide_eq_false c5
    clear c5
    obtain rfl := Option.some.inj H
    go_wp2
    go_ret
    exact ⟨by first | rfl | (simp [errW_none, errW_some] <;> rfl) | (simp [*, errW_none, errW_some] <;> rfl), by repeat (first | (with_reducible first | exact HB.out | apply below_alloc | apply pw_below_drewN | apply below_drew1 | refine below_set ?_ GE154001.out) | exact HB.out)⟩

end Go.Proofs.Ytodfnelilhjoeaa.Pr

namespace Go.Proofs.Ytodfnelilhjoeaa.Pr
open Go.RowKit Go.Proofs.YtodfnelilhjoeaaW.PrintWords Go.Proofs.Ytodfnelilhjoeaa.Ni
def namedI (ns : List PNode) (s : ByteArray) : Int := idxOf (fun n => decide (n.f0.toList = s.toList)) ns
theorem spec_NodeNamed_f (ns : List PNode) (ts : List PTie) (z : Int) (s : ByteArray) (hl : ns.length ≤ 9223372036854775807) (k : Nat) (hk : 2 ^ 64 ≤ k) : spec_NodeNamed.f k ns ts z s = some (namedI ns s) := by
 have key := loop_up ns.length (fun k i => (∀ j y, j < i → ns[j]? = some y → decide (y.f0.toList = s.toList) = false) → spec_NodeNamed.l0 k s ns ns.length (i : Int) = some (namedI ns s)) 0
  (fun k _ hb => by
   simp only [spec_NodeNamed.l0]
   rw [if_neg (by omega), namedI, idxOf_miss _ _ hb])
  (fun k i _ hi ih hb => by
   simp only [spec_NodeNamed.l0]
   rw [if_pos (by omega), if_pos (by omega), if_pos (by omega), rdN_nat, wrap_nat hi (by omega)]
   by_cases h : (ns.getD i z116).f0.toList = s.toList
   ·rw [if_pos h, namedI, idxOf_hit _ ns i _ (getD_some hi z116) (decide_eq_true h) hb]
   ·rw [if_neg h, ih]
    intro j y hj hy
    by_cases e : j = i
    ·subst e
     rw [getD_some hi z116] at hy
     cases hy
     exact decide_eq_false h
    ·exact hb j y (by omega) hy) 0 k (Nat.zero_le _) (by omega)
 unfold spec_NodeNamed.f
 exact key (fun j y hj => absurd hj (by omega))
end Go.Proofs.Ytodfnelilhjoeaa.Pr

namespace Go.Proofs.Ytodfnelilhjoeaa.Pr
open Go.RowKit Go.Proofs.YtodfnelilhjoeaaW.PrintWords Go.Proofs.YtodfnelilhjoeaaW.PrintLast Go.Proofs.YtodfnelilhjoeaaW.PrintMore
attribute [local go_sem] max2_int min2_int max_two min_two max_three min_three max_four min_four
set_option linter.unusedVariables false
set_option linter.unusedSimpArgs false

/-! ### spec_IsName: function 173 -/
def spec_IsName.l0 : Nat → ByteArray → Int → Option (Bool)
 | 0, _, _ => none
 | k + 1, x0, x3 => if x3 < (x0.size : Int) then (if 0 ≤ x3 then (if (bt x0 x3) ≥ 97 then (if ((bt x0 x3) ≤ 122) then (spec_IsName.l0 k x0 (wrap64 (x3 + 1))) else (if x3 = 0 then (some false) else (if (bt x0 x3) < 48 then (some false) else (if (bt x0 x3) > 57 then (some false) else (spec_IsName.l0 k x0 (wrap64 (x3 + 1))))))) else (if x3 = 0 then (some false) else (if (bt x0 x3) < 48 then (some false) else (if (bt x0 x3) > 57 then (some false) else (spec_IsName.l0 k x0 (wrap64 (x3 + 1))))))) else (none)) else ((spec_l01In.f (x0.size : Int) 1 8).bind fun t173001 => (some t173001))
def spec_IsName.f (k : Nat) (a0 : ByteArray) : Option (Bool) := spec_IsName.l0 k a0 0
set_option maxHeartbeats 8000000 in
set_option maxRecDepth 100000 in
theorem spec_IsName.calls (k : Nat) (a0 : ByteArray) (r : Bool) (w : World) (h : spec_IsName.f k a0 = some r) :
  Calls Try.prog 173 #[.string a0] w fun e w' => e = .returned (.bool r) ∧ Drawn0 w w' := by
 have H : (spec_IsName.l0 k a0 0) = some r := h
 clear h
 have H' := Aside0.mk H
 clear H
 go_enter Try.func173, Try.ntmps173
 go_wp2
 go_loopg [3] k (fun kq v3 w' => ∃ (x3_1 : Int), v3 = .int .i64 x3_1 ∧ Aside0 (spec_IsName.l0 kq a0 x3_1 = some r) ∧ Aside0 (kq ≤ k) ∧ Drawn0 w w')
 case atStart => exact ⟨(0), (by first | rfl | (simp; done) | (simp [*]; done)), H', ⟨Nat.le_refl _⟩, by repeat (first | exact Drawn0.refl _ | apply Drawn0.step)⟩
 case round =>
  clear H'
  try clear c1
  obtain ⟨x3_1, rfl, HA, HK1, ⟨m1, rfl⟩⟩ := hrel
  cases gk with
  | zero => exact absurd HA.out (by simp [spec_IsName.l0])
  | succ k1 =>
   have H := HA.out
   clear HA
   simp only [spec_IsName.l0] at H
   by_cases c2 : x3_1 < (a0.size : Int)
   ·rw [if_pos c2] at H
    have c2b0 : decide (x3_1 < (a0.size : Int)) = true := decide_eq_true c2
    clear c2
    by_cases c3 : 0 ≤ x3_1
    ·rw [if_pos c3] at H
     have c3b0 : decide (0 ≤ x3_1) = true := decide_eq_true c3
     clear c3
     by_cases c5 : (bt a0 x3_1) ≥ 97
     ·rw [if_pos c5] at H
      have c5b0 : decide (97 ≤ (bt a0 x3_1)) = true := decide_eq_true c5
      clear c5
      by_cases c7 : ((bt a0 x3_1) ≤ 122)
      ·rw [if_pos c7] at H
       have c7b0 : decide ((bt a0 x3_1) ≤ 122) = true := decide_eq_true c7
       clear c7
       have H' := Aside0.mk H
       clear H
       have p4 : 0 ≤ (x3_1 : Int) := of_decide_eq_true (by first | (with_reducible assumption) | assumption)
       have q4 : x3_1 < (a0.size : Int) := of_decide_eq_true (by first | (with_reducible assumption) | assumption)
       have hx4 := bt_at a0 x3_1
       replace p4 := eq_true p4
       replace q4 := eq_true q4
       have p6 : 0 ≤ (x3_1 : Int) := of_decide_eq_true (by first | (with_reducible assumption) | assumption)
       have q6 : x3_1 < (a0.size : Int) := of_decide_eq_true (by first | (with_reducible assumption) | assumption)
       have hx6 := bt_at a0 x3_1
       replace p6 := eq_true p6
       replace q6 := eq_true q6
       go_wp2
       go_roundg k1
       case measure => have := HK1.out; omega
       case rel => exact ⟨(wrap64 (x3_1 + 1)), (by first | rfl | (simp; done) | (simp [*]; done)), H', ⟨by have := HK1.out; omega⟩, by repeat (first | exact Drawn0.refl _ | apply Drawn0.step)⟩
      ·rw [if_neg c7] at H
       have c7b0 : decide ((bt a0 x3_1) ≤ 122) = false := decide_eq_false c7
       clear c7
       by_cases c8 : x3_1 = 0
       ·rw [if_pos c8] at H
        have c8b0 : (x3_1 == 0) = true := beq_iff_eq.mpr c8
        have c8b1 : (x3_1 != 0) = false := bne_eq_false_iff_eq.mpr c8
        clear c8
        obtain rfl := Option.some.inj H
        have p4 : 0 ≤ (x3_1 : Int) := of_decide_eq_true (by first | (with_reducible assumption) | assumption)
        have q4 : x3_1 < (a0.size : Int) := of_decide_eq_true (by first | (with_reducible assumption) | assumption)
        have hx4 := bt_at a0 x3_1
        replace p4 := eq_true p4
        replace q4 := eq_true q4
        have p6 : 0 ≤ (x3_1 : Int) := of_decide_eq_true (by first | (with_reducible assumption) | assumption)
        have q6 : x3_1 < (a0.size : Int) := of_decide_eq_true (by first | (with_reducible assumption) | assumption)
        have hx6 := bt_at a0 x3_1
        replace p6 := eq_true p6
        replace q6 := eq_true q6
        go_wp2
        go_ret
        exact ⟨by first | rfl | (simp; done) | (simp [*]; done), by repeat (first | exact Drawn0.refl _ | apply Drawn0.step)⟩
       ·rw [if_neg c8] at H
        have c8b0 : (x3_1 == 0) = false := beq_eq_false_iff_ne.mpr c8
        have c8b1 : (x3_1 != 0) = true := bne_iff_ne.mpr c8
        by_cases c10 : (bt a0 x3_1) < 48
        ·rw [if_pos c10] at H
         have c10b0 : decide ((bt a0 x3_1) < 48) = true := decide_eq_true c10
         clear c10
         obtain rfl := Option.some.inj H
         have p4 : 0 ≤ (x3_1 : Int) := of_decide_eq_true (by first | (with_reducible assumption) | assumption)
         have q4 : x3_1 < (a0.size : Int) := of_decide_eq_true (by first | (with_reducible assumption) | assumption)
         have hx4 := bt_at a0 x3_1
         replace p4 := eq_true p4
         replace q4 := eq_true q4
         have p6 : 0 ≤ (x3_1 : Int) := of_decide_eq_true (by first | (with_reducible assumption) | assumption)
         have q6 : x3_1 < (a0.size : Int) := of_decide_eq_true (by first | (with_reducible assumption) | assumption)
         have hx6 := bt_at a0 x3_1
         replace p6 := eq_true p6
         replace q6 := eq_true q6
         have p9 : 0 ≤ (x3_1 : Int) := of_decide_eq_true (by first | (with_reducible assumption) | assumption)
         have q9 : x3_1 < (a0.size : Int) := of_decide_eq_true (by first | (with_reducible assumption) | assumption)
         have hx9 := bt_at a0 x3_1
         replace p9 := eq_true p9
         replace q9 := eq_true q9
         go_wp2
         go_ret
         exact ⟨by first | rfl | (simp; done) | (simp [*]; done), by repeat (first | exact Drawn0.refl _ | apply Drawn0.step)⟩
        ·rw [if_neg c10] at H
         have c10b0 : decide ((bt a0 x3_1) < 48) = false := decide_eq_false c10
         clear c10
         by_cases c12 : (bt a0 x3_1) > 57
         ·rw [if_pos c12] at H
          have c12b0 : decide (57 < (bt a0 x3_1)) = true := decide_eq_true c12
          clear c12
          obtain rfl := Option.some.inj H
          have p4 : 0 ≤ (x3_1 : Int) := of_decide_eq_true (by first | (with_reducible assumption) | assumption)
          have q4 : x3_1 < (a0.size : Int) := of_decide_eq_true (by first | (with_reducible assumption) | assumption)
          have hx4 := bt_at a0 x3_1
          replace p4 := eq_true p4
          replace q4 := eq_true q4
          have p6 : 0 ≤ (x3_1 : Int) := of_decide_eq_true (by first | (with_reducible assumption) | assumption)
          have q6 : x3_1 < (a0.size : Int) := of_decide_eq_true (by first | (with_reducible assumption) | assumption)
          have hx6 := bt_at a0 x3_1
          replace p6 := eq_true p6
          replace q6 := eq_true q6
          have p9 : 0 ≤ (x3_1 : Int) := of_decide_eq_true (by first | (with_reducible assumption) | assumption)
          have q9 : x3_1 < (a0.size : Int) := of_decide_eq_true (by first | (with_reducible assumption) | assumption)
          have hx9 := bt_at a0 x3_1
          replace p9 := eq_true p9
          replace q9 := eq_true q9
          have p11 : 0 ≤ (x3_1 : Int) := of_decide_eq_true (by first | (with_reducible assumption) | assumption)
          have q11 : x3_1 < (a0.size : Int) := of_decide_eq_true (by first | (with_reducible assumption) | assumption)
          have hx11 := bt_at a0 x3_1
          replace p11 := eq_true p11
          replace q11 := eq_true q11
          go_wp2
          go_ret
          exact ⟨by first | rfl | (simp; done) | (simp [*]; done), by repeat (first | exact Drawn0.refl _ | apply Drawn0.step)⟩
         ·rw [if_neg c12] at H
          have c12b0 : decide (57 < (bt a0 x3_1)) = false := decide_eq_false c12
          clear c12
          have H' := Aside0.mk H
          clear H
          have p4 : 0 ≤ (x3_1 : Int) := of_decide_eq_true (by first | (with_reducible assumption) | assumption)
          have q4 : x3_1 < (a0.size : Int) := of_decide_eq_true (by first | (with_reducible assumption) | assumption)
          have hx4 := bt_at a0 x3_1
          replace p4 := eq_true p4
          replace q4 := eq_true q4
          have p6 : 0 ≤ (x3_1 : Int) := of_decide_eq_true (by first | (with_reducible assumption) | assumption)
          have q6 : x3_1 < (a0.size : Int) := of_decide_eq_true (by first | (with_reducible assumption) | assumption)
          have hx6 := bt_at a0 x3_1
          replace p6 := eq_true p6
          replace q6 := eq_true q6
          have p9 : 0 ≤ (x3_1 : Int) := of_decide_eq_true (by first | (with_reducible assumption) | assumption)
          have q9 : x3_1 < (a0.size : Int) := of_decide_eq_true (by first | (with_reducible assumption) | assumption)
          have hx9 := bt_at a0 x3_1
          replace p9 := eq_true p9
          replace q9 := eq_true q9
          have p11 : 0 ≤ (x3_1 : Int) := of_decide_eq_true (by first | (with_reducible assumption) | assumption)
          have q11 : x3_1 < (a0.size : Int) := of_decide_eq_true (by first | (with_reducible assumption) | assumption)
          have hx11 := bt_at a0 x3_1
          replace p11 := eq_true p11
          replace q11 := eq_true q11
          go_wp2
          go_roundg k1
          case measure => have := HK1.out; omega
          case rel => exact ⟨(wrap64 (x3_1 + 1)), (by first | rfl | (simp; done) | (simp [*]; done)), H', ⟨by have := HK1.out; omega⟩, by repeat (first | exact Drawn0.refl _ | apply Drawn0.step)⟩
     ·rw [if_neg c5] at H
      have c5b0 : decide (97 ≤ (bt a0 x3_1)) = false := decide_eq_false c5
      clear c5
      by_cases c13 : x3_1 = 0
      ·rw [if_pos c13] at H
       have c13b0 : (x3_1 == 0) = true := beq_iff_eq.mpr c13
       have c13b1 : (x3_1 != 0) = false := bne_eq_false_iff_eq.mpr c13
       clear c13
       obtain rfl := Option.some.inj H
       have p4 : 0 ≤ (x3_1 : Int) := of_decide_eq_true (by first | (with_reducible assumption) | assumption)
       have q4 : x3_1 < (a0.size : Int) := of_decide_eq_true (by first | (with_reducible assumption) | assumption)
       have hx4 := bt_at a0 x3_1
       replace p4 := eq_true p4
       replace q4 := eq_true q4
       go_wp2
       go_ret
       exact ⟨by first | rfl | (simp; done) | (simp [*]; done), by repeat (first | exact Drawn0.refl _ | apply Drawn0.step)⟩
      ·rw [if_neg c13] at H
       have c13b0 : (x3_1 == 0) = false := beq_eq_false_iff_ne.mpr c13
       have c13b1 : (x3_1 != 0) = true := bne_iff_ne.mpr c13
       by_cases c15 : (bt a0 x3_1) < 48
       ·rw [if_pos c15] at H
        have c15b0 : decide ((bt a0 x3_1) < 48) = true := decide_eq_true c15
        clear c15
        obtain rfl := Option.some.inj H
        have p4 : 0 ≤ (x3_1 : Int) := of_decide_eq_true (by first | (with_reducible assumption) | assumption)
        have q4 : x3_1 < (a0.size : Int) := of_decide_eq_true (by first | (with_reducible assumption) | assumption)
        have hx4 := bt_at a0 x3_1
        replace p4 := eq_true p4
        replace q4 := eq_true q4
        have p14 : 0 ≤ (x3_1 : Int) := of_decide_eq_true (by first | (with_reducible assumption) | assumption)
        have q14 : x3_1 < (a0.size : Int) := of_decide_eq_true (by first | (with_reducible assumption) | assumption)
        have hx14 := bt_at a0 x3_1
        replace p14 := eq_true p14
        replace q14 := eq_true q14
        go_wp2
        go_ret
        exact ⟨by first | rfl | (simp; done) | (simp [*]; done), by repeat (first | exact Drawn0.refl _ | apply Drawn0.step)⟩
       ·rw [if_neg c15] at H
        have c15b0 : decide ((bt a0 x3_1) < 48) = false := decide_eq_false c15
        clear c15
        by_cases c17 : (bt a0 x3_1) > 57
        ·rw [if_pos c17] at H
         have c17b0 : decide (57 < (bt a0 x3_1)) = true := decide_eq_true c17
         clear c17
         obtain rfl := Option.some.inj H
         have p4 : 0 ≤ (x3_1 : Int) := of_decide_eq_true (by first | (with_reducible assumption) | assumption)
         have q4 : x3_1 < (a0.size : Int) := of_decide_eq_true (by first | (with_reducible assumption) | assumption)
         have hx4 := bt_at a0 x3_1
         replace p4 := eq_true p4
         replace q4 := eq_true q4
         have p14 : 0 ≤ (x3_1 : Int) := of_decide_eq_true (by first | (with_reducible assumption) | assumption)
         have q14 : x3_1 < (a0.size : Int) := of_decide_eq_true (by first | (with_reducible assumption) | assumption)
         have hx14 := bt_at a0 x3_1
         replace p14 := eq_true p14
         replace q14 := eq_true q14
         have p16 : 0 ≤ (x3_1 : Int) := of_decide_eq_true (by first | (with_reducible assumption) | assumption)
         have q16 : x3_1 < (a0.size : Int) := of_decide_eq_true (by first | (with_reducible assumption) | assumption)
         have hx16 := bt_at a0 x3_1
         replace p16 := eq_true p16
         replace q16 := eq_true q16
         go_wp2
         go_ret
         exact ⟨by first | rfl | (simp; done) | (simp [*]; done), by repeat (first | exact Drawn0.refl _ | apply Drawn0.step)⟩
        ·rw [if_neg c17] at H
         have c17b0 : decide (57 < (bt a0 x3_1)) = false := decide_eq_false c17
         clear c17
         have H' := Aside0.mk H
         clear H
         have p4 : 0 ≤ (x3_1 : Int) := of_decide_eq_true (by first | (with_reducible assumption) | assumption)
         have q4 : x3_1 < (a0.size : Int) := of_decide_eq_true (by first | (with_reducible assumption) | assumption)
         have hx4 := bt_at a0 x3_1
         replace p4 := eq_true p4
         replace q4 := eq_true q4
         have p14 : 0 ≤ (x3_1 : Int) := of_decide_eq_true (by first | (with_reducible assumption) | assumption)
         have q14 : x3_1 < (a0.size : Int) := of_decide_eq_true (by first | (with_reducible assumption) | assumption)
         have hx14 := bt_at a0 x3_1
         replace p14 := eq_true p14
         replace q14 := eq_true q14
         have p16 : 0 ≤ (x3_1 : Int) := of_decide_eq_true (by first | (with_reducible assumption) | assumption)
         have q16 : x3_1 < (a0.size : Int) := of_decide_eq_true (by first | (with_reducible assumption) | assumption)
         have hx16 := bt_at a0 x3_1
         replace p16 := eq_true p16
         replace q16 := eq_true q16
         go_wp2
         go_roundg k1
         case measure => have := HK1.out; omega
         case rel => exact ⟨(wrap64 (x3_1 + 1)), (by first | rfl | (simp; done) | (simp [*]; done)), H', ⟨by have := HK1.out; omega⟩, by repeat (first | exact Drawn0.refl _ | apply Drawn0.step)⟩
    ·rw [if_neg c3] at H
     exact absurd H (by simp)
   ·rw [if_neg c2] at H
    have c2b0 : decide (x3_1 < (a0.size : Int)) = false := decide_eq_false c2
    clear c2
    replace H := Option.bind_eq_some_iff.mp H
    obtain ⟨t173001, A180, H⟩ := H
    replace H : (some t173001) = some r := H
    have A18 := Aside0.mk A180; clear A180
    obtain rfl := Option.some.inj H
    go_wp2_with (first | ((with_reducible refine gate_callee (f := 68) rfl ?_); refine goesL_ (some 41) rfl rfl Try.func68 (by kernel_rfl) rfl #[.int .i64 (a0.size : Int), .int .i64 1, .int .i64 8] rfl (by (try simp only [List.map_toArray, List.map_cons, List.map_nil]); first | done | rfl | (simp only [List.length_drop, List.length_take]; rfl)) ?_; (with_reducible refine (spec_l01In.calls (a0.size : Int) 1 8 t173001 _ A18.out).mono ?_); rintro e w' ⟨rfl, ⟨nd, rfl⟩⟩; refine ⟨_, rfl, ?_⟩))
    go_ret
    exact ⟨by first | rfl | (simp; done) | (simp [*]; done), by repeat (first | exact Drawn0.refl _ | apply Drawn0.step)⟩

end Go.Proofs.Ytodfnelilhjoeaa.Pr

