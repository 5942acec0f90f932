/- The texts of one claim, put together by a program of this session. -/
import Derived.Test.YtodfnelilhjoeaaBSsc1x1
namespace Go.Proofs.Ytodfnelilhjoeaa.Pr
open Go.RowKit Go.Proofs.YtodfnelilhjoeaaW.PrintWords Go.Proofs.YtodfnelilhjoeaaW.PrintLast Go.Proofs.YtodfnelilhjoeaaW.PrintMore
attribute [local go_sem] max2_int min2_int max_two min_two max_three min_three max_four min_four
set_option linter.unusedVariables false
set_option linter.unusedSimpArgs false
def laws_toTieS.l0 : Nat → List (S130) → List (S90) → Int → Option ((List (S90)))
 | 0, _, _, _ => none
 | k + 1, x0, x3, x4 => if x4 < (x0.length : Int) then (if 0 ≤ x4 then ((laws_toTie.f ((rd_T130 x0 x4).f0) ((rd_T130 x0 x4).f1) ((rd_T130 x0 x4).f2) ((rd_T130 x0 x4).f3) ((rd_T130 x0 x4).f4)).bind fun bt71005 => (if x4 < (x3.length : Int) then (laws_toTieS.l0 k x0 (x3.set (x4 : Int).toNat (⟨bt71005.1, bt71005.2.1, bt71005.2.2.1, bt71005.2.2.2.1, bt71005.2.2.2.2⟩ : S90)) (wrap64 (x4 + 1))) else (none))) else (none)) else (some x3)
def laws_toTieS.f (k : Nat) (l0 : List (S130)) : Option ((List (S90))) := if 0 ≤ (l0.length : Int) then (if ((l0.length : Int) : Int).toNat ≤ 7036874417766 then (laws_toTieS.l0 k l0 (List.replicate ((l0.length : Int) : Int).toNat z90) 0) else (none)) else (none)
set_option maxHeartbeats 8000000 in
set_option maxRecDepth 100000 in
theorem laws_toTieS.calls (k : Nat) (A0 : Option Addr) (c0 : Nat) (l0 : List (S130)) (r : List (S90)) (w : World) (hr0 : Kd.C k130 w A0 l0.length l0) (hc0 : l0.length ≤ c0) (h : laws_toTieS.f k l0 = some r) :
  Calls Try.prog 71 #[.slice A0 l0.length c0] w fun e w' => ∃ v0_ : Value, e = .returned (v0_) ∧ Kd.R k90 90 w' w.heap.size (fun _ => True) v0_ r ∧ Below w.heap.size w w' := by
 have hu130 := Try.underlying130
 have hu90 := Try.underlying90
 have HR0 := Aside0.mk hr0; have HC0 := Aside0.mk hc0; clear hr0 hc0
 have HB := Aside0.mk (Below.refl w.heap.size w)
 have H : (if 0 ≤ (l0.length : Int) then (if ((l0.length : Int) : Int).toNat ≤ 7036874417766 then (laws_toTieS.l0 k l0 (List.replicate ((l0.length : Int) : Int).toNat z90) 0) else (none)) else (none)) = some r := h
 clear h
 by_cases c2 : 0 ≤ (l0.length : Int)
 ·rw [if_pos c2] at H
  have c2b0 := eq_true c2
  have c2b1 : decide (0 ≤ (l0.length : Int)) = true := decide_eq_true c2
  clear c2
  by_cases c3 : ((l0.length : Int) : Int).toNat ≤ 7036874417766
  ·rw [if_pos c3] at H
   have c3b0 := eq_true c3
   have c3b1 : decide (((l0.length : Int) : Int).toNat ≤ 7036874417766) = true := decide_eq_true c3
   clear c3
   obtain ⟨y71001, hy71001⟩ : ∃ y_ : List (S90), y_ = (List.replicate ((l0.length : Int) : Int).toNat z90) := ⟨_, rfl⟩
   replace H : (laws_toTieS.l0 k l0 y71001 0) = some r := by first | (rw [hy71001]; with_reducible exact H) | (have H2_ := (Option.bind_some _ _).symm.trans H; rw [hy71001]; with_reducible exact H2_) | (have H2_ := (Option.bind_some _ _).symm.trans H; with_reducible exact H2_) | with_reducible exact H | (rw [hy71001]; exact H) | exact H
   have Ny71001 := Aside0.mk hy71001; clear hy71001
   have H' := Aside0.mk H
   clear H
   go_enter Try.func71, Try.ntmps71
   go_wp2_with (first | ((with_reducible refine gate_dst (N := 7) rfl ?_); refine Kd.R_make k90 _ 90 rfl (N := 7) rfl 33 _ _ rfl (l0.length : Int) rfl rfl Try.underlying33 (.agg #[(.int .i64 0), (.int .i64 0), (.int .i64 0), (.int .i64 0), (.bool false)]) 40 info90 rfl (by decide) (by omega) z90 (ok := fun _ => True) (okp := fun _ => True) (k90_mkM _ _ _ z90 ) (fun _ hk => hk) trivial (of_decide_eq_true (by first | (with_reducible assumption) | assumption)) (Nat.le_trans (Nat.mul_le_mul_right _ (of_decide_eq_true (by first | (with_reducible assumption) | assumption) : (l0.length : Int).toNat ≤ 7036874417766)) (by omega)) (Below.refl _ _) (Nat.le_refl _) ?_; intro v71002 w4 ho5 hb hg_ hnew_; clear hg_ hnew_; (first | rw [← Ny71001.out] at ho5 | (simp only [Int.reduceToNat] at ho5; rw [← Ny71001.out] at ho5)); have n0_ := Aside0.mk (Kd.R_lower ho5 (below_size (by repeat (first | (with_reducible first | exact HB.out | apply below_alloc | apply pw_below_drewN | apply below_drew1) | exact HB.out)))); have n1_ := Aside0.mk (below_step (by repeat (first | (with_reducible first | exact HB.out | apply below_alloc | apply pw_below_drewN | apply below_drew1) | exact HB.out)) hb); clear HB; have HO71003 := n0_; have HB := n1_; clear n0_ n1_; clear hb ho5))
   go_loopg [4] k (fun kq v4 w' => ∃ (x3_1 : List (S90)) (x4_1 : Int), v4 = .int .i64 x4_1 ∧ Aside0 (laws_toTieS.l0 kq l0 x3_1 x4_1 = some r) ∧ Aside0 (kq ≤ k) ∧ Aside0 (Kd.R k90 90 w' w.heap.size (fun _ => True) v71002 x3_1) ∧ Aside0 (Below w.heap.size w w'))
   case atStart => exact ⟨(y71001), (0), (by first | rfl | (simp; done) | (simp [*]; done)), H', ⟨Nat.le_refl _⟩, ⟨by (with_reducible repeat (first | apply Kd.R_alloc | apply Kd.R_drewN | apply Kd.R_drew)); exact HO71003.out⟩, ⟨by repeat (first | (with_reducible first | exact HB.out | apply below_alloc | apply pw_below_drewN | apply below_drew1) | exact HB.out)⟩⟩
   case round =>
    clear H'
    try clear c2
    try clear c2b0
    try clear c2b1
    try clear p2
    try clear c3
    try clear c3b0
    try clear c3b1
    obtain ⟨x3_1, x4_1, rfl, HA, HK1, HO_3, HB⟩ := hrel
    cases gk with
    | zero => exact absurd HA.out (by simp [laws_toTieS.l0])
    | succ k1 =>
     have H := HA.out
     clear HA
     simp only [laws_toTieS.l0] at H
     by_cases c6 : x4_1 < (l0.length : Int)
     ·rw [if_pos c6] at H
      have c6b0 : decide (x4_1 < (l0.length : Int)) = true := decide_eq_true c6
      clear c6
      by_cases c7 : 0 ≤ x4_1
      ·rw [if_pos c7] at H
       have c7b0 : decide (0 ≤ x4_1) = true := decide_eq_true c7
       clear c7
       replace H := Option.bind_eq_some_iff.mp H
       obtain ⟨⟨t71005, t71006, t71007, t71008, t71009⟩, A80, H⟩ := H
       replace H : (if x4_1 < (x3_1.length : Int) then (laws_toTieS.l0 k1 l0 (x3_1.set (x4_1 : Int).toNat (⟨t71005, t71006, t71007, t71008, t71009⟩ : S90)) (wrap64 (x4_1 + 1))) else (none)) = some r := H
       have A8 := Aside0.mk A80; clear A80
       by_cases c9 : x4_1 < (x3_1.length : Int)
       ·rw [if_pos c9] at H
        have c9b0 : decide (x4_1 < (x3_1.length : Int)) = true := decide_eq_true c9
        clear c9
        obtain ⟨y71010, hy71010⟩ : ∃ y_ : List (S90), y_ = (x3_1.set (x4_1 : Int).toNat (⟨t71005, t71006, t71007, t71008, t71009⟩ : S90)) := ⟨_, rfl⟩
        replace H : (laws_toTieS.l0 k1 l0 y71010 (wrap64 (x4_1 + 1))) = some r := by first | (rw [hy71010]; with_reducible exact H) | (have H2_ := (Option.bind_some _ _).symm.trans H; rw [hy71010]; with_reducible exact H2_) | (have H2_ := (Option.bind_some _ _).symm.trans H; with_reducible exact H2_) | with_reducible exact H | (rw [hy71010]; exact H) | exact H
        have Ny71010 := Aside0.mk hy71010; clear hy71010
        have H' := Aside0.mk H
        clear H
        have p71004 : 0 ≤ (x4_1 : Int) := of_decide_eq_true (by first | (with_reducible assumption) | assumption)
        have q71004 : x4_1 < (l0.length : Int) := of_decide_eq_true (by first | (with_reducible assumption) | assumption)
        obtain ⟨ad71004, e71004, hx71004_0, hx71004_1, hx71004_2, hx71004_3, hx71004_4⟩ := at_T130 HR0.out x4_1 p71004 q71004
        cases e71004
        replace hx71004_0 := (HB.out.cell (World.block_lt_of_cell? w _ hx71004_0)).trans hx71004_0
        replace hx71004_1 := (HB.out.cell (World.block_lt_of_cell? w _ hx71004_1)).trans hx71004_1
        replace hx71004_2 := (HB.out.cell (World.block_lt_of_cell? w _ hx71004_2)).trans hx71004_2
        replace hx71004_3 := (HB.out.cell (World.block_lt_of_cell? w _ hx71004_3)).trans hx71004_3
        replace hx71004_4 := (HB.out.cell (World.block_lt_of_cell? w _ hx71004_4)).trans hx71004_4
        replace p71004 := eq_true p71004
        replace q71004 := eq_true q71004
        go_wp2_with (first | ((with_reducible refine gate_callee (f := 120) rfl ?_); refine goesL_ (some 20) rfl rfl Try.func120 (by kernel_rfl) rfl #[.agg #[.int .i64 ((rd_T130 l0 x4_1).f0), .int .i64 ((rd_T130 l0 x4_1).f1), .int .i64 ((rd_T130 l0 x4_1).f2), .int .i64 ((rd_T130 l0 x4_1).f3), .bool ((rd_T130 l0 x4_1).f4)]] rfl (by (try simp only [List.map_toArray, List.map_cons, List.map_nil]); first | done | rfl | (simp only [List.length_drop, List.length_take]; rfl)) ?_; (with_reducible refine (laws_toTie.calls ((rd_T130 l0 x4_1).f0) ((rd_T130 l0 x4_1).f1) ((rd_T130 l0 x4_1).f2) ((rd_T130 l0 x4_1).f3) ((rd_T130 l0 x4_1).f4) t71005 t71006 t71007 t71008 t71009 _ A8.out).mono ?_); rintro e w11 ⟨rfl, hb⟩; refine ⟨_, rfl, ?_⟩; have n0_ := Aside0.mk (Kd.R_below (by (with_reducible repeat (first | apply Kd.R_alloc | apply Kd.R_drewN | apply Kd.R_drew)); exact HO_3.out) hb); have n1_ := Aside0.mk (below_step (by repeat (first | (with_reducible first | exact HB.out | apply below_alloc | apply pw_below_drewN | apply below_drew1) | exact HB.out)) hb); clear HO_3; clear HB; have HO_3 := n0_; have HB := n1_; clear n0_ n1_; (try clear hb); (try clear hb2); (try clear hk); (try clear hi); have p10 : 0 ≤ (x4_1 : Int) := of_decide_eq_true (by first | (with_reducible assumption) | assumption); have q10 : (x4_1 : Int) < ((x3_1.length : Int) : Int) := of_decide_eq_true (by first | (with_reducible assumption) | assumption); obtain ⟨go10, co10, eo10, gb10, gl10, cl10, HG10⟩ := Kd.R_form HO_3.out (by omega); (first | cases eo10 | (injection eo10 with ea_ en_ ec_; (first | subst ea_ | (injection ea_ with ea_; subst ea_)); subst ec_; clear en_)); have GB10 := Aside0.mk gb10; have GG10 := Aside0.mk HG10; clear gb10 gl10 HG10; obtain ⟨ce10, hcl10, hM10, hcc10, hfr10⟩ := Kd.R_elem HO_3.out z90 (x4_1 : Int) p10 q10; obtain rfl := k90_openM hM10; have hx10_0 : w11.cell? ⟨go10, (x4_1 : Int).toNat * 5, none⟩ = some (.int .i64 ((rd_T90 x3_1 x4_1).f0)) := hcc10 0 _ rfl; have hx10_1 : w11.cell? ⟨go10, (x4_1 : Int).toNat * 5 + 1, none⟩ = some (.int .i64 ((rd_T90 x3_1 x4_1).f1)) := hcc10 1 _ rfl; have hx10_2 : w11.cell? ⟨go10, (x4_1 : Int).toNat * 5 + 2, none⟩ = some (.int .i64 ((rd_T90 x3_1 x4_1).f2)) := hcc10 2 _ rfl; have hx10_3 : w11.cell? ⟨go10, (x4_1 : Int).toNat * 5 + 3, none⟩ = some (.int .i64 ((rd_T90 x3_1 x4_1).f3)) := hcc10 3 _ rfl; have hx10_4 : w11.cell? ⟨go10, (x4_1 : Int).toNat * 5 + 4, none⟩ = some (.bool ((rd_T90 x3_1 x4_1).f4)) := hcc10 4 _ rfl; have hf10_0 : w11.frozen? ⟨go10, (x4_1 : Int).toNat * 5, none⟩ = false := hfr10 0; have hf10_1 : w11.frozen? ⟨go10, (x4_1 : Int).toNat * 5 + 1, none⟩ = false := hfr10 1; have hf10_2 : w11.frozen? ⟨go10, (x4_1 : Int).toNat * 5 + 2, none⟩ = false := hfr10 2; have hf10_3 : w11.frozen? ⟨go10, (x4_1 : Int).toNat * 5 + 3, none⟩ = false := hfr10 3; have hf10_4 : w11.frozen? ⟨go10, (x4_1 : Int).toNat * 5 + 4, none⟩ = false := hfr10 4; clear hcl10 hcc10 hfr10 hM10; replace p10 := eq_true p10; replace q10 := eq_true q10; have HX12 := Aside0.mk (show Kd.R k90 90 w11 w.heap.size (fun _ => True) (.slice (some ⟨go10, 0, none⟩) x3_1.length co10) x3_1 from (by (with_reducible repeat (first | apply Kd.R_alloc | apply Kd.R_drewN | apply Kd.R_drew)); exact HO_3.out)); obtain ⟨ce12, hcl12, hM12, hcc12, hfr12⟩ := Kd.R_elem HX12.out z90 (x4_1 : Int) (of_decide_eq_true (by first | (with_reducible assumption) | assumption)) (by have h_ : (x4_1 : Int) < ((x3_1.length : Int) : Int) := of_decide_eq_true (by first | (with_reducible assumption) | assumption); first | exact h_ | (have e_ := (Kd.R_reads' HO_3.out).1; omega) | simpa using h_); obtain rfl := k90_openM hM12; have HP12 := Kd.R_seg HX12.out (x4_1 : Int) (of_decide_eq_true (by first | (with_reducible assumption) | assumption)) (by have h_ : (x4_1 : Int) < ((x3_1.length : Int) : Int) := of_decide_eq_true (by first | (with_reducible assumption) | assumption); first | exact h_ | (have e_ := (Kd.R_reads' HO_3.out).1; omega) | simpa using h_) (seg := [.int .i64 t71005, .int .i64 t71006, .int .i64 t71007, .int .i64 t71008, .bool t71009]) (j := 0) hcl12 hcc12 (show 5 ≤ 5 from by decide) (x' := (⟨t71005, t71006, t71007, t71008, t71009⟩ : S90)) (k90_mkM _ _ _ (⟨t71005, t71006, t71007, t71008, t71009⟩ : S90) ) (fun _ hk => hk); have hx12_0 := hcc12 0 _ rfl; (try simp only [show (k90).sz = 5 from rfl, Nat.mul_one, Nat.add_zero] at hx12_0); have hf12_0 := hfr12 0; (try simp only [show (k90).sz = 5 from rfl, Nat.mul_one, Nat.add_zero] at hf12_0); have hx12_1 := hcc12 1 _ rfl; (try simp only [show (k90).sz = 5 from rfl, Nat.mul_one, Nat.add_zero] at hx12_1); have hf12_1 := hfr12 1; (try simp only [show (k90).sz = 5 from rfl, Nat.mul_one, Nat.add_zero] at hf12_1); have hx12_2 := hcc12 2 _ rfl; (try simp only [show (k90).sz = 5 from rfl, Nat.mul_one, Nat.add_zero] at hx12_2); have hf12_2 := hfr12 2; (try simp only [show (k90).sz = 5 from rfl, Nat.mul_one, Nat.add_zero] at hf12_2); have hx12_3 := hcc12 3 _ rfl; (try simp only [show (k90).sz = 5 from rfl, Nat.mul_one, Nat.add_zero] at hx12_3); have hf12_3 := hfr12 3; (try simp only [show (k90).sz = 5 from rfl, Nat.mul_one, Nat.add_zero] at hf12_3); have hx12_4 := hcc12 4 _ rfl; (try simp only [show (k90).sz = 5 from rfl, Nat.mul_one, Nat.add_zero] at hx12_4); have hf12_4 := hfr12 4; (try simp only [show (k90).sz = 5 from rfl, Nat.mul_one, Nat.add_zero] at hf12_4); clear hcl12 hcc12 hfr12 hM12) | ((with_reducible refine gate_store (t := 90) (p := 21) rfl ?_); refine store_event (t := 90) (p := 21) (v := ?vo_w13) (w1 := (((((w11.setCell ⟨go10, (x4_1 : Int).toNat * 5, none⟩ (.int .i64 t71005)).setCell ⟨go10, (x4_1 : Int).toNat * 5 + 1, none⟩ (.int .i64 t71006)).setCell ⟨go10, (x4_1 : Int).toNat * 5 + 2, none⟩ (.int .i64 t71007)).setCell ⟨go10, (x4_1 : Int).toNat * 5 + 3, none⟩ (.int .i64 t71008)).setCell ⟨go10, (x4_1 : Int).toNat * 5 + 4, none⟩ (.bool t71009))) ?hg ?ho ?hn ?hr ?_; (case ho => rfl); (case hg => rfl); (case hn => rfl); (case hr => first | (go_simp; done) | (go_simp; rfl)); intro w13 hw; have hg : w11.grownBy w13 (some go10) := (by rw [hw]; exact HP12.2); have hp_ : Kd.R k90 90 w13 w.heap.size (fun _ => True) (.slice (some ⟨go10, 0, none⟩) x3_1.length co10) y71010 := (by rw [hw, Ny71010.out]; exact HP12.1); clear HP12; have n0_ := Aside0.mk (hp_); have n1_ := Aside0.mk ((by rw [hw]; exact below_set (below_set (below_set (below_set (below_set (HB.out) GB10.out) GB10.out) GB10.out) GB10.out) GB10.out : Below w.heap.size w w13)); clear HO_3; clear HB; have HO_3 := n0_; have HB := n1_; clear n0_ n1_; clear hg hw hp_))
        go_roundg k1
        case measure => have := HK1.out; omega
        case rel => exact ⟨(y71010), (wrap64 (x4_1 + 1)), (by first | rfl | (simp; done) | (simp [*]; done)), H', ⟨by have := HK1.out; omega⟩, ⟨by (with_reducible repeat (first | apply Kd.R_alloc | apply Kd.R_drewN | apply Kd.R_drew)); exact HO_3.out⟩, ⟨by repeat (first | (with_reducible first | exact HB.out | apply below_alloc | apply pw_below_drewN | apply below_drew1) | exact HB.out)⟩⟩
       ·rw [if_neg c9] at H
        exact absurd H (by simp)
      ·rw [if_neg c7] at H
       exact absurd H (by simp)
     ·rw [if_neg c6] at H
      have c6b0 : decide (x4_1 < (l0.length : Int)) = false := decide_eq_false c6
      clear c6
      obtain rfl := Option.some.inj H
      go_wp2
      go_ret
      exact ⟨_, by first | rfl | (simp [errW_none, errW_some] <;> rfl) | (simp [*, errW_none, errW_some] <;> rfl), by (with_reducible repeat (first | apply Kd.R_alloc | apply Kd.R_drewN | apply Kd.R_drew)); exact HO_3.out, by repeat (first | (with_reducible first | exact HB.out | apply below_alloc | apply pw_below_drewN | apply below_drew1) | exact HB.out)⟩
  ·rw [if_neg c3] at H
   exact absurd H (by simp)
 ·rw [if_neg c2] at H
  exact absurd H (by simp)

def laws_toShow.f (k : Nat) (l0_0 : List (S127)) (l0_1 : List (S130)) (a0_2 : Int) : Option ((List (S116)) × (List (S90)) × Int) := (laws_toNodeS.f k l0_0).bind fun t18004 => ((laws_toTieS.f k l0_1).bind fun t18007 => (some (t18004, t18007, a0_2)))
set_option maxHeartbeats 8000000 in
set_option maxRecDepth 100000 in
theorem laws_toShow.calls (k : Nat) (A0_0 : Option Addr) (c0_0 : Nat) (l0_0 : List (S127)) (A0_1 : Option Addr) (c0_1 : Nat) (l0_1 : List (S130)) (a0_2 : Int) (r1 : List (S116)) (r2 : List (S90)) (r3 : Int) (w : World) (hr0_0 : Kd.C k127 w A0_0 l0_0.length l0_0) (hc0_0 : l0_0.length ≤ c0_0) (hr0_1 : Kd.C k130 w A0_1 l0_1.length l0_1) (hc0_1 : l0_1.length ≤ c0_1) (h : laws_toShow.f k l0_0 l0_1 a0_2 = some (r1, r2, r3)) :
  Calls Try.prog 18 #[.agg #[.slice A0_0 l0_0.length c0_0, .slice A0_1 l0_1.length c0_1, .int .i64 a0_2]] w fun e w' => ∃ v0_ v1_ : Value, e = .returned (.agg #[v0_, v1_, .int .i64 r3]) ∧ Kd.S k116 116 w' w.heap.size (fun _ => True) v0_ r1 ∧ Kd.R k90 90 w' w.heap.size (fun _ => True) v1_ r2 ∧ Below w.heap.size w w' := by
 have hu25 := Try.underlying25
 have hu35 := Try.underlying35
 have HR0_0 := Aside0.mk hr0_0; have HC0_0 := Aside0.mk hc0_0; clear hr0_0 hc0_0; have HR0_1 := Aside0.mk hr0_1; have HC0_1 := Aside0.mk hc0_1; clear hr0_1 hc0_1
 have HB := Aside0.mk (Below.refl w.heap.size w)
 have H : ((laws_toNodeS.f k l0_0).bind fun t18004 => ((laws_toTieS.f k l0_1).bind fun t18007 => (some (t18004, t18007, a0_2)))) = some (r1, r2, r3) := h
 clear h
 replace H := Option.bind_eq_some_iff.mp H
 obtain ⟨t18004, A20, H⟩ := H
 replace H : ((laws_toTieS.f k l0_1).bind fun t18007 => (some (t18004, t18007, a0_2))) = some (r1, r2, r3) := H
 have A2 := Aside0.mk A20; clear A20
 replace H := Option.bind_eq_some_iff.mp H
 obtain ⟨t18007, A30, H⟩ := H
 replace H : (some (t18004, t18007, a0_2)) = some (r1, r2, r3) := H
 have A3 := Aside0.mk A30; clear A30
 simp only [Option.some.injEq, Prod.mk.injEq] at H
 obtain ⟨rfl, rfl, rfl⟩ := H
 go_enter Try.func18, Try.ntmps18
 go_wp2_with (first | ((with_reducible refine gate_dst (N := 1) rfl ?_); refine box_event ?hg (N := 1) ?hd (cs := #[.slice A0_0 l0_0.length c0_0, .slice A0_1 l0_1.length c0_1, .int .i64 a0_2]) (t := 25) ?hr ?_; (case hd => rfl); (case hg => rfl); (case hr => first | (go_simp; done) | (go_simp; rfl)); intro gb18001 hg w4 hbox hb; have n0_ := Aside0.mk (below_step (by repeat (first | (with_reducible first | exact HB.out | apply below_alloc | apply pw_below_drewN | apply below_drew1) | exact HB.out)) hb); have n1_ := Aside0.mk (hbox); have n2_ := Aside0.mk ((by rw [hg]; exact (below_size (by repeat (first | (with_reducible first | exact HB.out | apply below_alloc | apply pw_below_drewN | apply below_drew1) | exact HB.out))) : w.heap.size ≤ gb18001)); have n3_ := n2_; clear HB; have HB := n0_; have BK18001 := n1_; have GW18001 := n2_; have GE18001 := n3_; clear n0_ n1_ n2_ n3_; clear hb hbox hg) | ((with_reducible refine gate_dst (N := 2) rfl ?_); refine box_event ?hg (N := 2) ?hd (cs := #[.slice none 0 0, .slice none 0 0, .int .i64 0]) (t := 35) ?hr ?_; (case hd => rfl); (case hg => rfl); (case hr => first | (go_simp; done) | (go_simp; rfl)); intro gb18002 hg w5 hbox hb; have n0_ := Aside0.mk (blk_below (g := gb18001) (o := .cells #[.slice A0_0 l0_0.length c0_0, .slice A0_1 l0_1.length c0_1, .int .i64 a0_2] 25 (0, 0)) BK18001.out hb); have n1_ := Aside0.mk (below_step (by repeat (first | (with_reducible first | exact HB.out | apply below_alloc | apply pw_below_drewN | apply below_drew1 | refine below_set ?_ GE18001.out) | exact HB.out)) hb); have n2_ := Aside0.mk (hbox); have n3_ := Aside0.mk ((by rw [hg]; exact (below_size (by repeat (first | (with_reducible first | exact HB.out | apply below_alloc | apply pw_below_drewN | apply below_drew1 | refine below_set ?_ GE18001.out) | exact HB.out))) : w.heap.size ≤ gb18002)); have n4_ := n3_; have n5_ := Aside0.mk ((by rw [hg]; exact Nat.ne_of_lt (blk_lt BK18001.out) : gb18001 ≠ gb18002)); have n6_ := Aside0.mk n5_.out.symm; clear BK18001; clear HB; have BK18001 := n0_; have HB := n1_; have BK18002 := n2_; have GW18002 := n3_; have GE18002 := n4_; have NB18001_18002 := n5_; have NB18002_18001 := n6_; clear n0_ n1_ n2_ n3_ n4_ n5_ n6_; clear hb hbox hg) | ((with_reducible refine gate_dst (N := 3) rfl ?_); refine box_event ?hg (N := 3) ?hd (cs := #[.slice none 0 0, .slice none 0 0, .int .i64 0]) (t := 35) ?hr ?_; (case hd => rfl); (case hg => rfl); (case hr => first | (go_simp; done) | (go_simp; rfl)); intro gb18003 hg w6 hbox hb; have n0_ := Aside0.mk (blk_below (g := gb18001) (o := .cells #[.slice A0_0 l0_0.length c0_0, .slice A0_1 l0_1.length c0_1, .int .i64 a0_2] 25 (0, 0)) BK18001.out hb); have n1_ := Aside0.mk (blk_below (g := gb18002) (o := .cells #[.slice none 0 0, .slice none 0 0, .int .i64 0] 35 (0, 0)) BK18002.out hb); have n2_ := Aside0.mk (below_step (by repeat (first | (with_reducible first | exact HB.out | apply below_alloc | apply pw_below_drewN | apply below_drew1 | refine below_set ?_ GE18001.out | refine below_set ?_ GE18002.out) | exact HB.out)) hb); have n3_ := Aside0.mk (hbox); have n4_ := Aside0.mk ((by rw [hg]; exact (below_size (by repeat (first | (with_reducible first | exact HB.out | apply below_alloc | apply pw_below_drewN | apply below_drew1 | refine below_set ?_ GE18001.out | refine below_set ?_ GE18002.out) | exact HB.out))) : w.heap.size ≤ gb18003)); have n5_ := n4_; have n6_ := Aside0.mk ((by rw [hg]; exact Nat.ne_of_lt (blk_lt BK18001.out) : gb18001 ≠ gb18003)); have n7_ := Aside0.mk n6_.out.symm; have n8_ := Aside0.mk ((by rw [hg]; exact Nat.ne_of_lt (blk_lt BK18002.out) : gb18002 ≠ gb18003)); have n9_ := Aside0.mk n8_.out.symm; clear BK18001; clear BK18002; clear HB; have BK18001 := n0_; have BK18002 := n1_; have HB := n2_; have BK18003 := n3_; have GW18003 := n4_; have GE18003 := n5_; have NB18001_18003 := n6_; have NB18003_18001 := n7_; have NB18002_18003 := n8_; have NB18003_18002 := n9_; clear n0_ n1_ n2_ n3_ n4_ n5_ n6_ n7_ n8_ n9_; clear hb hbox hg; have hnb7 := NB18001_18002.out; have hnc7 := NB18002_18001.out; have hnb8 := NB18001_18003.out; have hnc8 := NB18003_18001.out; have hcz9_0 : w6.cell? ⟨gb18001, 0, none⟩ = some (.slice A0_0 l0_0.length c0_0) := (blk_cell BK18001.out 0).trans rfl; have hcz9_1 : w6.cell? ⟨gb18001, 1, none⟩ = some (.slice A0_1 l0_1.length c0_1) := (blk_cell BK18001.out 1).trans rfl; have hcz9_2 : w6.cell? ⟨gb18001, 2, none⟩ = some (.int .i64 a0_2) := (blk_cell BK18001.out 2).trans rfl; have hfz9_0 := blk_frozen BK18001.out 0; have hfz9_1 := blk_frozen BK18001.out 1; have hfz9_2 := blk_frozen BK18001.out 2) | ((with_reducible refine gate_callee (f := 70) rfl ?_); refine goesL_ (some 6) rfl rfl Try.func70 (by kernel_rfl) rfl #[.slice A0_0 l0_0.length c0_0] rfl (by (try simp only [List.map_toArray, List.map_cons, List.map_nil]); first | done | rfl | (simp only [List.length_drop, List.length_take]; rfl)) ?_; (with_reducible refine (laws_toNodeS.calls k _ _ l0_0 t18004 _ ?side1 ?side2 A2.out).mono ?_); (case side1 => repeat (first | exact (Kd.C_below HR0_0.out HB.out) | (with_reducible refine Kd.C_alloc ?_ _) | (with_reducible refine Kd.C_drewN ?_ _) | (with_reducible refine Kd.C_drew ?_))); (case side2 => exact HC0_0.out); rintro e w10 ⟨v18005, rfl, ho0, hb⟩; refine ⟨_, rfl, ?_⟩; have n0_ := Aside0.mk (Kd.S_lower ho0 (below_size (by repeat (first | (with_reducible first | exact HB.out | apply below_alloc | apply pw_below_drewN | apply below_drew1 | refine below_set ?_ GE18001.out | refine below_set ?_ GE18002.out | refine below_set ?_ GE18003.out) | exact HB.out)))); have n1_ := Aside0.mk (blk_below (g := gb18001) (o := .cells #[.slice A0_0 l0_0.length c0_0, .slice A0_1 l0_1.length c0_1, .int .i64 a0_2] 25 (0, 0)) BK18001.out hb); have n2_ := Aside0.mk (blk_below (g := gb18002) (o := .cells #[.slice none 0 0, .slice none 0 0, .int .i64 0] 35 (0, 0)) BK18002.out hb); have n3_ := Aside0.mk (blk_below (g := gb18003) (o := .cells #[.slice none 0 0, .slice none 0 0, .int .i64 0] 35 (0, 0)) BK18003.out hb); have n4_ := Aside0.mk (below_step (by repeat (first | (with_reducible first | exact HB.out | apply below_alloc | apply pw_below_drewN | apply below_drew1 | refine below_set ?_ GE18001.out | refine below_set ?_ GE18002.out | refine below_set ?_ GE18003.out) | exact HB.out)) hb); clear BK18001; clear BK18002; clear BK18003; clear HB; have HO18006 := n0_; have BK18001 := n1_; have BK18002 := n2_; have BK18003 := n3_; have HB := n4_; clear n0_ n1_ n2_ n3_ n4_; (try clear hb); (try clear hb2); (try clear hk); (try clear hi); (try clear ho0); obtain ⟨Ao11, co11, eo11⟩ := Kd.S_slice HO18006.out; subst eo11; have hnb12 := NB18003_18002.out; have hnc12 := NB18002_18003.out; have hcz13_0 : w10.cell? ⟨gb18003, 0, none⟩ = some (.slice none 0 0) := (blk_cell BK18003.out 0).trans rfl; have hcz13_1 : w10.cell? ⟨gb18003, 1, none⟩ = some (.slice none 0 0) := (blk_cell BK18003.out 1).trans rfl; have hcz13_2 : w10.cell? ⟨gb18003, 2, none⟩ = some (.int .i64 0) := (blk_cell BK18003.out 2).trans rfl; have hfz13_0 := blk_frozen BK18003.out 0; have hfz13_1 := blk_frozen BK18003.out 1; have hfz13_2 := blk_frozen BK18003.out 2; have hcz14_0 : w10.cell? ⟨gb18001, 0, none⟩ = some (.slice A0_0 l0_0.length c0_0) := (blk_cell BK18001.out 0).trans rfl; have hcz14_1 : w10.cell? ⟨gb18001, 1, none⟩ = some (.slice A0_1 l0_1.length c0_1) := (blk_cell BK18001.out 1).trans rfl; have hcz14_2 : w10.cell? ⟨gb18001, 2, none⟩ = some (.int .i64 a0_2) := (blk_cell BK18001.out 2).trans rfl; have hfz14_0 := blk_frozen BK18001.out 0; have hfz14_1 := blk_frozen BK18001.out 1; have hfz14_2 := blk_frozen BK18001.out 2) | ((with_reducible refine gate_callee (f := 71) rfl ?_); refine goesL_ (some 10) rfl rfl Try.func71 (by kernel_rfl) rfl #[.slice A0_1 l0_1.length c0_1] rfl (by (try simp only [List.map_toArray, List.map_cons, List.map_nil]); first | done | rfl | (simp only [List.length_drop, List.length_take]; rfl)) ?_; (with_reducible refine (laws_toTieS.calls k _ _ l0_1 t18007 _ ?side1 ?side2 A3.out).mono ?_); (case side1 => exact Kd.C_below HR0_1.out (by repeat (first | (with_reducible first | exact HB.out | apply below_alloc | apply pw_below_drewN | apply below_drew1 | refine below_set ?_ GE18001.out | refine below_set ?_ GE18002.out | refine below_set ?_ GE18003.out) | exact HB.out))); (case side2 => exact HC0_1.out); rintro e w15 ⟨v18008, rfl, ho0, hb⟩; refine ⟨_, rfl, ?_⟩; have n0_ := Aside0.mk (Kd.S_below (by (with_reducible repeat (first | apply Kd.S_alloc | apply Kd.S_drewN | apply Kd.S_drew)); exact (Kd.S_mono (Kd.S_far (p := ⟨gb18003, 0, none⟩) (Kd.S_types HO18006.out BK18003.out (by decide)) (fun _ hk => hk.2) (.slice Ao11 t18004.length co11)) (fun _ h_ => h_.1))) hb); have n1_ := Aside0.mk (Kd.R_lower ho0 (below_size (by repeat (first | (with_reducible first | exact HB.out | apply below_alloc | apply pw_below_drewN | apply below_drew1 | refine below_set ?_ GE18001.out | refine below_set ?_ GE18002.out | refine below_set ?_ GE18003.out) | exact HB.out)))); have n2_ := Aside0.mk (blk_below (g := gb18001) (o := .cells #[.slice A0_0 l0_0.length c0_0, .slice A0_1 l0_1.length c0_1, .int .i64 a0_2] 25 (0, 0)) (by (with_reducible repeat (first | refine blk_drewN ?_ _ | refine blk_drew ?_ | refine blk_alloc ?_ _)); refine blk_far ?_ NB18001_18003.out _; (with_reducible repeat (first | refine blk_drewN ?_ _ | refine blk_drew ?_ | refine blk_alloc ?_ _)); exact BK18001.out) hb); have n3_ := Aside0.mk (blk_below (g := gb18002) (o := .cells #[.slice none 0 0, .slice none 0 0, .int .i64 0] 35 (0, 0)) (by (with_reducible repeat (first | refine blk_drewN ?_ _ | refine blk_drew ?_ | refine blk_alloc ?_ _)); refine blk_far ?_ NB18002_18003.out _; (with_reducible repeat (first | refine blk_drewN ?_ _ | refine blk_drew ?_ | refine blk_alloc ?_ _)); exact BK18002.out) hb); have n4_ := Aside0.mk (blk_below (g := gb18003) (o := .cells #[.slice Ao11 t18004.length co11, .slice none 0 0, .int .i64 0] 35 (0, 0)) (by (with_reducible repeat (first | refine blk_drewN ?_ _ | refine blk_drew ?_ | refine blk_alloc ?_ _)); refine blk_put (cs := #[.slice none 0 0, .slice none 0 0, .int .i64 0]) ?_ 0 _ rfl; (with_reducible repeat (first | refine blk_drewN ?_ _ | refine blk_drew ?_ | refine blk_alloc ?_ _)); exact BK18003.out) hb); have n5_ := Aside0.mk (below_step (by repeat (first | (with_reducible first | exact HB.out | apply below_alloc | apply pw_below_drewN | apply below_drew1 | refine below_set ?_ GE18001.out | refine below_set ?_ GE18002.out | refine below_set ?_ GE18003.out) | exact HB.out)) hb); clear HO18006; clear BK18001; clear BK18002; clear BK18003; clear HB; have HO18006 := n0_; have HO18009 := n1_; have BK18001 := n2_; have BK18002 := n3_; have BK18003 := n4_; have HB := n5_; clear n0_ n1_ n2_ n3_ n4_ n5_; (try clear hb); (try clear hb2); (try clear hk); (try clear hi); (try clear ho0); obtain ⟨Ao16, co16, eo16⟩ := Kd.R_slice HO18009.out; subst eo16; have hcz17_0 : w15.cell? ⟨gb18003, 0, none⟩ = some (.slice Ao11 t18004.length co11) := (blk_cell BK18003.out 0).trans rfl; have hcz17_1 : w15.cell? ⟨gb18003, 1, none⟩ = some (.slice none 0 0) := (blk_cell BK18003.out 1).trans rfl; have hcz17_2 : w15.cell? ⟨gb18003, 2, none⟩ = some (.int .i64 0) := (blk_cell BK18003.out 2).trans rfl; have hfz17_0 := blk_frozen BK18003.out 0; have hfz17_1 := blk_frozen BK18003.out 1; have hfz17_2 := blk_frozen BK18003.out 2; have hcz18_0 : w15.cell? ⟨gb18001, 0, none⟩ = some (.slice A0_0 l0_0.length c0_0) := (blk_cell BK18001.out 0).trans rfl; have hcz18_1 : w15.cell? ⟨gb18001, 1, none⟩ = some (.slice A0_1 l0_1.length c0_1) := (blk_cell BK18001.out 1).trans rfl; have hcz18_2 : w15.cell? ⟨gb18001, 2, none⟩ = some (.int .i64 a0_2) := (blk_cell BK18001.out 2).trans rfl; have hfz18_0 := blk_frozen BK18001.out 0; have hfz18_1 := blk_frozen BK18001.out 1; have hfz18_2 := blk_frozen BK18001.out 2; have hcz19_0 : w15.cell? ⟨gb18002, 0, none⟩ = some (.slice none 0 0) := (blk_cell BK18002.out 0).trans rfl; have hcz19_1 : w15.cell? ⟨gb18002, 1, none⟩ = some (.slice none 0 0) := (blk_cell BK18002.out 1).trans rfl; have hcz19_2 : w15.cell? ⟨gb18002, 2, none⟩ = some (.int .i64 0) := (blk_cell BK18002.out 2).trans rfl; have hfz19_0 := blk_frozen BK18002.out 0; have hfz19_1 := blk_frozen BK18002.out 1; have hfz19_2 := blk_frozen BK18002.out 2))
 refine bodyPost_ret (results_cell_row rfl _ _ gb18002 35 #[.slice Ao11 t18004.length co11, .slice Ao16 t18007.length co16, .int .i64 a0_2] (0, 0) _ rfl (by (with_reducible repeat (first | refine blk_drewN ?_ _ | refine blk_drew ?_ | refine blk_alloc ?_ _)); refine blk_put (cs := #[.slice Ao11 t18004.length co11, .slice Ao16 t18007.length co16, .int .i64 0]) ?_ 2 _ rfl; (with_reducible repeat (first | refine blk_drewN ?_ _ | refine blk_drew ?_ | refine blk_alloc ?_ _)); refine blk_put (cs := #[.slice Ao11 t18004.length co11, .slice none 0 0, .int .i64 0]) ?_ 1 _ rfl; (with_reducible repeat (first | refine blk_drewN ?_ _ | refine blk_drew ?_ | refine blk_alloc ?_ _)); refine blk_put (cs := #[.slice none 0 0, .slice none 0 0, .int .i64 0]) ?_ 0 _ rfl; (with_reducible repeat (first | refine blk_drewN ?_ _ | refine blk_drew ?_ | refine blk_alloc ?_ _)); refine blk_far ?_ NB18002_18003.out _; (with_reducible repeat (first | refine blk_drewN ?_ _ | refine blk_drew ?_ | refine blk_alloc ?_ _)); refine blk_far ?_ NB18002_18003.out _; (with_reducible repeat (first | refine blk_drewN ?_ _ | refine blk_drew ?_ | refine blk_alloc ?_ _)); exact BK18002.out) Try.underlying35 rfl (by kernel_rfl)) rfl ?_
 exact ⟨_, _, by first | rfl | (simp [errW_none, errW_some] <;> rfl) | (simp [*, errW_none, errW_some] <;> rfl), by (with_reducible repeat (first | apply Kd.S_alloc | apply Kd.S_drewN | apply Kd.S_drew)); exact Kd.S_mono (Kd.S_far (p := ⟨gb18002, 2, none⟩) (Kd.S_far (p := ⟨gb18002, 1, none⟩) (Kd.S_far (p := ⟨gb18002, 0, none⟩) (Kd.S_far (p := ⟨gb18003, 2, none⟩) (Kd.S_far (p := ⟨gb18003, 1, none⟩) (Kd.S_types (Kd.S_types HO18006.out BK18003.out (by decide)) BK18002.out (by decide)) (fun _ hk => hk.1.2) (.slice Ao16 t18007.length co16)) (fun _ hk => hk.1.2) (.int .i64 a0_2)) (fun _ hk => hk.2) (.slice Ao11 t18004.length co11)) (fun _ hk => hk.2) (.slice Ao16 t18007.length co16)) (fun _ hk => hk.2) (.int .i64 a0_2)) (fun _ hk => trivial), by (with_reducible repeat (first | apply Kd.R_alloc | apply Kd.R_drewN | apply Kd.R_drew)); exact Kd.R_mono (Kd.R_far (p := ⟨gb18002, 2, none⟩) (Kd.R_far (p := ⟨gb18002, 1, none⟩) (Kd.R_far (p := ⟨gb18002, 0, none⟩) (Kd.R_far (p := ⟨gb18003, 2, none⟩) (Kd.R_far (p := ⟨gb18003, 1, none⟩) (Kd.R_types (Kd.R_types HO18009.out BK18003.out (by decide)) BK18002.out (by decide)) (fun _ hk => hk.1.2) (.slice Ao16 t18007.length co16)) (fun _ hk => hk.1.2) (.int .i64 a0_2)) (fun _ hk => hk.2) (.slice Ao11 t18004.length co11)) (fun _ hk => hk.2) (.slice Ao16 t18007.length co16)) (fun _ hk => hk.2) (.int .i64 a0_2)) (fun _ hk => trivial), by repeat (first | (with_reducible first | exact HB.out | apply below_alloc | apply pw_below_drewN | apply below_drew1 | refine below_set ?_ GE18001.out | refine below_set ?_ GE18002.out | refine below_set ?_ GE18003.out) | exact HB.out)⟩

theorem laws_toShow.c (k : Nat) (A0_0 : Option Addr) (c0_0 : Nat) (l0_0 : List (S127)) (A0_1 : Option Addr) (c0_1 : Nat) (l0_1 : List (S130)) (a0_2 : Int) (r1 : List (S116)) (r2 : List (S90)) (r3 : Int) (w : World) (hr0_0 : Kd.C k127 w A0_0 l0_0.length l0_0) (hc0_0 : l0_0.length ≤ c0_0) (hr0_1 : Kd.C k130 w A0_1 l0_1.length l0_1) (hc0_1 : l0_1.length ≤ c0_1) (h : laws_toShow.f k l0_0 l0_1 a0_2 = some (r1, r2, r3)) :
  Calls Try.prog 18 #[.agg #[.slice A0_0 l0_0.length c0_0, .slice A0_1 l0_1.length c0_1, .int .i64 a0_2]] w fun e w' => ∃ A0_ c0_ A1_ c1_, e = .returned (.agg #[.slice A0_ r1.length c0_, .slice A1_ r2.length c1_, .int .i64 r3]) ∧ Aside0 (r1.length ≤ c0_ ∧ Kd.C k116 w' A0_ r1.length r1) ∧ Aside0 (r2.length ≤ c1_ ∧ Kd.C k90 w' A1_ r2.length r2) ∧ Below w.heap.size w w' :=
 (laws_toShow.calls k A0_0 c0_0 l0_0 A0_1 c0_1 l0_1 a0_2 r1 r2 r3 w hr0_0 hc0_0 hr0_1 hc0_1 h).mono fun e w' ⟨v0_, v1_, he, q0_, q1_, hb⟩ => by
  obtain ⟨A0_, c0_, rfl, g0_⟩ := Kd.S_reads q0_
  obtain ⟨A1_, c1_, rfl, g1_⟩ := Kd.R_reads q1_
  exact ⟨A0_, c0_, A1_, c1_, he, ⟨g0_⟩, ⟨g1_⟩, hb⟩

def spec_NodeNamed.l0 : Nat → ByteArray → List (S116) → Int → Int → Option (Int)
 | 0, _, _, _, _ => none
 | k + 1, x1, x8, x9, x10 => if x10 < x9 then (if 0 ≤ x10 then (if x10 < (x8.length : Int) then (if ((rd_T116 x8 x10).f0).toList = x1.toList then (some x10) else (spec_NodeNamed.l0 k x1 x8 x9 (wrap64 (x10 + 1)))) else (none)) else (none)) else (some (-1))
def spec_NodeNamed.f (k : Nat) (l0_0 : List (S116)) (l0_1 : List (S90)) (a0_2 : Int) (a1 : ByteArray) : Option (Int) := spec_NodeNamed.l0 k a1 l0_0 (l0_0.length : Int) 0
set_option maxHeartbeats 8000000 in
set_option maxRecDepth 100000 in
theorem spec_NodeNamed.calls (k : Nat) (A0_0 : Option Addr) (c0_0 : Nat) (l0_0 : List (S116)) (A0_1 : Option Addr) (c0_1 : Nat) (l0_1 : List (S90)) (a0_2 : Int) (a1 : ByteArray) (r : Int) (w : World) (hr0_0 : Kd.C k116 w A0_0 l0_0.length l0_0) (hc0_0 : l0_0.length ≤ c0_0) (hr0_1 : Kd.C k90 w A0_1 l0_1.length l0_1) (hc0_1 : l0_1.length ≤ c0_1) (h : spec_NodeNamed.f k l0_0 l0_1 a0_2 a1 = some r) :
  Calls Try.prog 154 #[.agg #[.slice A0_0 l0_0.length c0_0, .slice A0_1 l0_1.length c0_1, .int .i64 a0_2], .string a1] w fun e w' => e = .returned (.int .i64 r) ∧ Below w.heap.size w w' := by
 have hu35 := Try.underlying35
 have hu116 := Try.underlying116
 have HR0_0 := Aside0.mk hr0_0; have HC0_0 := Aside0.mk hc0_0; clear hr0_0 hc0_0; have HR0_1 := Aside0.mk hr0_1; have HC0_1 := Aside0.mk hc0_1; clear hr0_1 hc0_1
 have HB := Aside0.mk (Below.refl w.heap.size w)
 have H : (spec_NodeNamed.l0 k a1 l0_0 (l0_0.length : Int) 0) = some r := h
 clear h
 have H' := Aside0.mk H
 clear H
 go_enter Try.func154, Try.ntmps154
 go_wp2_with (first | ((with_reducible refine gate_dst (N := 2) rfl ?_); refine box_event ?hg (N := 2) ?hd (cs := #[.slice A0_0 l0_0.length c0_0, .slice A0_1 l0_1.length c0_1, .int .i64 a0_2]) (t := 35) ?hr ?_; (case hd => rfl); (case hg => rfl); (case hr => first | (go_simp; done) | (go_simp; rfl)); intro gb154001 hg w3 hbox hb; have n0_ := Aside0.mk (below_step (by exact HB.out) hb); have n1_ := Aside0.mk (hbox); have n2_ := Aside0.mk ((by rw [hg]; exact (below_size (by exact HB.out)) : w.heap.size ≤ gb154001)); have n3_ := n2_; clear HB; have HB := n0_; have BK154001 := n1_; have GW154001 := n2_; have GE154001 := n3_; clear n0_ n1_ n2_ n3_; clear hb hbox hg; have hcz4_0 : w3.cell? ⟨gb154001, 0, none⟩ = some (.slice A0_0 l0_0.length c0_0) := (blk_cell BK154001.out 0).trans rfl; have hcz4_1 : w3.cell? ⟨gb154001, 1, none⟩ = some (.slice A0_1 l0_1.length c0_1) := (blk_cell BK154001.out 1).trans rfl; have hcz4_2 : w3.cell? ⟨gb154001, 2, none⟩ = some (.int .i64 a0_2) := (blk_cell BK154001.out 2).trans rfl; have hfz4_0 := blk_frozen BK154001.out 0; have hfz4_1 := blk_frozen BK154001.out 1; have hfz4_2 := blk_frozen BK154001.out 2))
 go_loopg [10] k (fun kq v10 w' => ∃ (x10_1 : Int), v10 = .int .i64 x10_1 ∧ Aside0 (spec_NodeNamed.l0 kq a1 l0_0 (l0_0.length : Int) x10_1 = some r) ∧ Aside0 (kq ≤ k) ∧ Aside0 (w'.heap[gb154001]? = some (.cells #[(.slice A0_0 l0_0.length c0_0), (.slice A0_1 l0_1.length c0_1), .int .i64 a0_2] 35 (0, 0))) ∧ Aside0 (Below w.heap.size w w'))
 case atStart => exact ⟨(0), (by first | rfl | (simp; done) | (simp [*]; done)), H', ⟨Nat.le_refl _⟩, ⟨by (with_reducible repeat (first | refine blk_drewN ?_ _ | refine blk_drew ?_ | refine blk_alloc ?_ _)); exact BK154001.out⟩, ⟨by repeat (first | (with_reducible first | exact HB.out | apply below_alloc | apply pw_below_drewN | apply below_drew1 | refine below_set ?_ GE154001.out) | exact HB.out)⟩⟩
 case round =>
  clear H'
  try clear c1
  try clear p2
  obtain ⟨x10_1, rfl, HA, HK1, BK154001, HB⟩ := hrel
  cases gk with
  | zero => exact absurd HA.out (by simp [spec_NodeNamed.l0])
  | succ k1 =>
   have H := HA.out
   clear HA
   simp only [spec_NodeNamed.l0] at H
   by_cases c5 : x10_1 < (l0_0.length : Int)
   ·rw [if_pos c5] at H
    have c5b0 : decide (x10_1 < (l0_0.length : Int)) = true := decide_eq_true c5
    clear c5
    by_cases c6 : 0 ≤ x10_1
    ·rw [if_pos c6] at H
     have c6b0 : decide (0 ≤ x10_1) = true := decide_eq_true c6
     clear c6
     by_cases c7 : x10_1 < (l0_0.length : Int)
     ·rw [if_pos c7] at H
      have c7b0 : decide (x10_1 < (l0_0.length : Int)) = true := decide_eq_true c7
      clear c7
      by_cases c8 : ((rd_T116 l0_0 x10_1).f0).toList = a1.toList
      ·rw [if_pos c8] at H
       have c8b0 : (((rd_T116 l0_0 x10_1).f0).toList == a1.toList) = true := beq_iff_eq.mpr c8
       have c8b1 : (((rd_T116 l0_0 x10_1).f0).toList != a1.toList) = false := bne_eq_false_iff_eq.mpr c8
       clear c8
       obtain rfl := Option.some.inj H
       have p154002 : 0 ≤ (x10_1 : Int) := of_decide_eq_true (by with_reducible assumption)
       have q154002 : x10_1 < (l0_0.length : Int) := of_decide_eq_true (by with_reducible assumption)
       obtain ⟨ad154002, A154002_1, c154002_1, e154002, hx154002_0, hx154002_1, hx154002_2, hl154002_1, hi154002_1⟩ := at_T116 HR0_0.out x10_1 p154002 q154002
       cases e154002
       replace hx154002_0 := (HB.out.cell (World.block_lt_of_cell? w _ hx154002_0)).trans hx154002_0
       replace hx154002_1 := (HB.out.cell (World.block_lt_of_cell? w _ hx154002_1)).trans hx154002_1
       replace hx154002_2 := (HB.out.cell (World.block_lt_of_cell? w _ hx154002_2)).trans hx154002_2
       have HR154002_1 := Aside0.mk hi154002_1; have HC154002_1 := Aside0.mk hl154002_1; clear hi154002_1 hl154002_1
       replace p154002 := eq_true p154002
       replace q154002 := eq_true q154002
       go_wp2_with (first | ((with_reducible refine gate_dst (N := 6) rfl ?_); refine box_event ?hg (N := 6) ?hd (cs := #[.string (⟨#[]⟩ : ByteArray), .slice none 0 0, .int .i64 0]) (t := 116) ?hr ?_; (case hd => rfl); (case hg => rfl); (case hr => first | (go_simp; done) | (go_simp; rfl)); intro gb154003 hg w9 hbox hb; have n0_ := Aside0.mk (blk_below BK154001.out hb); have n1_ := Aside0.mk (below_step (by exact HB.out) hb); have n2_ := Aside0.mk (hbox); have n3_ := Aside0.mk ((by rw [hg]; exact (below_size (by exact HB.out)) : w.heap.size ≤ gb154003)); have n4_ := n3_; have n5_ := Aside0.mk ((by rw [hg]; exact Nat.ne_of_lt (blk_lt BK154001.out) : gb154001 ≠ gb154003)); have n6_ := Aside0.mk n5_.out.symm; clear BK154001; clear HB; have BK154001 := n0_; have HB := n1_; have BK154003 := n2_; have GW154003 := n3_; have GE154003 := n4_; have NB154001_154003 := n5_; have NB154003_154001 := n6_; clear n0_ n1_ n2_ n3_ n4_ n5_ n6_; clear hb hbox hg; have hnb10 := NB154003_154001.out; have hnc10 := NB154001_154003.out; have hcz11_0 : w9.cell? ⟨gb154003, 0, none⟩ = some (.string (⟨#[]⟩ : ByteArray)) := (blk_cell BK154003.out 0).trans rfl; have hcz11_1 : w9.cell? ⟨gb154003, 1, none⟩ = some (.slice none 0 0) := (blk_cell BK154003.out 1).trans rfl; have hcz11_2 : w9.cell? ⟨gb154003, 2, none⟩ = some (.int .i64 0) := (blk_cell BK154003.out 2).trans rfl; have hfz11_0 := blk_frozen BK154003.out 0; have hfz11_1 := blk_frozen BK154003.out 1; have hfz11_2 := blk_frozen BK154003.out 2))
       go_ret
       exact ⟨by first | rfl | (simp [errW_none, errW_some] <;> rfl) | (simp [*, errW_none, errW_some] <;> rfl), by repeat (first | (with_reducible first | exact HB.out | apply below_alloc | apply pw_below_drewN | apply below_drew1 | refine below_set ?_ GE154001.out | refine below_set ?_ GE154003.out) | exact HB.out)⟩
      ·rw [if_neg c8] at H
       have c8b0 : (((rd_T116 l0_0 x10_1).f0).toList == a1.toList) = false := beq_eq_false_iff_ne.mpr c8
       have c8b1 : (((rd_T116 l0_0 x10_1).f0).toList != a1.toList) = true := bne_iff_ne.mpr c8
       have H' := Aside0.mk H
       clear H
       have p154002 : 0 ≤ (x10_1 : Int) := of_decide_eq_true (by with_reducible assumption)
       have q154002 : x10_1 < (l0_0.length : Int) := of_decide_eq_true (by with_reducible assumption)
       obtain ⟨ad154002, A154002_1, c154002_1, e154002, hx154002_0, hx154002_1, hx154002_2, hl154002_1, hi154002_1⟩ := at_T116 HR0_0.out x10_1 p154002 q154002
       cases e154002
       replace hx154002_0 := (HB.out.cell (World.block_lt_of_cell? w _ hx154002_0)).trans hx154002_0
       replace hx154002_1 := (HB.out.cell (World.block_lt_of_cell? w _ hx154002_1)).trans hx154002_1
       replace hx154002_2 := (HB.out.cell (World.block_lt_of_cell? w _ hx154002_2)).trans hx154002_2
       have HR154002_1 := Aside0.mk hi154002_1; have HC154002_1 := Aside0.mk hl154002_1; clear hi154002_1 hl154002_1
       replace p154002 := eq_true p154002
       replace q154002 := eq_true q154002
       go_wp2_with (first | ((with_reducible refine gate_dst (N := 6) rfl ?_); refine box_event ?hg (N := 6) ?hd (cs := #[.string (⟨#[]⟩ : ByteArray), .slice none 0 0, .int .i64 0]) (t := 116) ?hr ?_; (case hd => rfl); (case hg => rfl); (case hr => first | (go_simp; done) | (go_simp; rfl)); intro gb154003 hg w12 hbox hb; have n0_ := Aside0.mk (blk_below BK154001.out hb); have n1_ := Aside0.mk (below_step (by exact HB.out) hb); have n2_ := Aside0.mk (hbox); have n3_ := Aside0.mk ((by rw [hg]; exact (below_size (by exact HB.out)) : w.heap.size ≤ gb154003)); have n4_ := n3_; have n5_ := Aside0.mk ((by rw [hg]; exact Nat.ne_of_lt (blk_lt BK154001.out) : gb154001 ≠ gb154003)); have n6_ := Aside0.mk n5_.out.symm; clear BK154001; clear HB; have BK154001 := n0_; have HB := n1_; have BK154003 := n2_; have GW154003 := n3_; have GE154003 := n4_; have NB154001_154003 := n5_; have NB154003_154001 := n6_; clear n0_ n1_ n2_ n3_ n4_ n5_ n6_; clear hb hbox hg; have hnb13 := NB154003_154001.out; have hnc13 := NB154001_154003.out; have hcz14_0 : w12.cell? ⟨gb154003, 0, none⟩ = some (.string (⟨#[]⟩ : ByteArray)) := (blk_cell BK154003.out 0).trans rfl; have hcz14_1 : w12.cell? ⟨gb154003, 1, none⟩ = some (.slice none 0 0) := (blk_cell BK154003.out 1).trans rfl; have hcz14_2 : w12.cell? ⟨gb154003, 2, none⟩ = some (.int .i64 0) := (blk_cell BK154003.out 2).trans rfl; have hfz14_0 := blk_frozen BK154003.out 0; have hfz14_1 := blk_frozen BK154003.out 1; have hfz14_2 := blk_frozen BK154003.out 2))
       go_roundg k1
       case measure => have := HK1.out; omega
       case rel => exact ⟨(wrap64 (x10_1 + 1)), (by first | rfl | (simp; done) | (simp [*]; done)), H', ⟨by have := HK1.out; omega⟩, ⟨by (with_reducible repeat (first | refine blk_drewN ?_ _ | refine blk_drew ?_ | refine blk_alloc ?_ _)); refine blk_far ?_ NB154001_154003.out _; (with_reducible repeat (first | refine blk_drewN ?_ _ | refine blk_drew ?_ | refine blk_alloc ?_ _)); refine blk_far ?_ NB154001_154003.out _; (with_reducible repeat (first | refine blk_drewN ?_ _ | refine blk_drew ?_ | refine blk_alloc ?_ _)); refine blk_far ?_ NB154001_154003.out _; (with_reducible repeat (first | refine blk_drewN ?_ _ | refine blk_drew ?_ | refine blk_alloc ?_ _)); exact BK154001.out⟩, ⟨by repeat (first | (with_reducible first | exact HB.out | apply below_alloc | apply pw_below_drewN | apply below_drew1 | refine below_set ?_ GE154001.out | refine below_set ?_ GE154003.out) | exact HB.out)⟩⟩
     ·rw [if_neg c7] at H
      exact absurd H (by simp)
    ·rw [if_neg c6] at H
     exact absurd H (by simp)
   ·rw [if_neg c5] at H
    have c5b0 : decide (x10_1 < (l0_0.length : Int)) = false := decide_eq_false c5
    clear c5
    obtain rfl := Option.some.inj H
    go_wp2
    go_ret
    exact ⟨by first | rfl | (simp [errW_none, errW_some] <;> rfl) | (simp [*, errW_none, errW_some] <;> rfl), by repeat (first | (with_reducible first | exact HB.out | apply below_alloc | apply pw_below_drewN | apply below_drew1 | refine below_set ?_ GE154001.out) | exact HB.out)⟩

end Go.Proofs.Ytodfnelilhjoeaa.Pr
namespace Go.Proofs.Ytodfnelilhjoeaa.Pr
open Go.RowKit Go.Proofs.YtodfnelilhjoeaaW.PrintWords Go.Proofs.Ytodfnelilhjoeaa.Ni
def namedI (ns : List PNode) (s : ByteArray) : Int := idxOf (fun n => decide (n.f0.toList = s.toList)) ns
theorem spec_NodeNamed_f (ns : List PNode) (ts : List PTie) (z : Int) (s : ByteArray) (hl : ns.length ≤ 9223372036854775807) (k : Nat) (hk : 2 ^ 64 ≤ k) : spec_NodeNamed.f k ns ts z s = some (namedI ns s) := by
 have key := loop_up ns.length (fun k i => (∀ j y, j < i → ns[j]? = some y → decide (y.f0.toList = s.toList) = false) → spec_NodeNamed.l0 k s ns ns.length (i : Int) = some (namedI ns s)) 0
  (fun k _ hb => by
   simp only [spec_NodeNamed.l0]
   rw [if_neg (by omega), namedI, idxOf_miss _ _ hb])
  (fun k i _ hi ih hb => by
   simp only [spec_NodeNamed.l0]
   rw [if_pos (by omega), if_pos (by omega), if_pos (by omega), rdN_nat, wrap_nat hi (by omega)]
   by_cases h : (ns.getD i z116).f0.toList = s.toList
   ·rw [if_pos h, namedI, idxOf_hit _ ns i _ (getD_some hi z116) (decide_eq_true h) hb]
   ·rw [if_neg h, ih]
    intro j y hj hy
    by_cases e : j = i
    ·subst e
     rw [getD_some hi z116] at hy
     cases hy
     exact decide_eq_false h
    ·exact hb j y (by omega) hy) 0 k (Nat.zero_le _) (by omega)
 unfold spec_NodeNamed.f
 exact key (fun j y hj => absurd hj (by omega))
end Go.Proofs.Ytodfnelilhjoeaa.Pr
namespace Go.Proofs.Ytodfnelilhjoeaa.Pr
open Go.RowKit Go.Proofs.YtodfnelilhjoeaaW.PrintWords Go.Proofs.YtodfnelilhjoeaaW.PrintLast Go.Proofs.YtodfnelilhjoeaaW.PrintMore
attribute [local go_sem] max2_int min2_int max_two min_two max_three min_three max_four min_four
set_option linter.unusedVariables false
set_option linter.unusedSimpArgs false
def spec_l01In.f (a0 : Int) (a1 : Int) (a2 : Int) : Option (Bool) := if a0 ≥ a1 then (some (decide (a0 ≤ a2))) else (some false)
set_option maxHeartbeats 8000000 in
set_option maxRecDepth 100000 in
theorem spec_l01In.calls (a0 : Int) (a1 : Int) (a2 : Int) (r : Bool) (w : World) (h : spec_l01In.f a0 a1 a2 = some r) :
  Calls Try.prog 68 #[.int .i64 a0, .int .i64 a1, .int .i64 a2] w fun e w' => e = .returned (.bool r) ∧ Drawn0 w w' := by
 have H : (if a0 ≥ a1 then (some (decide (a0 ≤ a2))) else (some false)) = some r := h
 clear h
 by_cases c4 : a0 ≥ a1
 ·rw [if_pos c4] at H
  have c4b0 : decide (a1 ≤ a0) = true := decide_eq_true c4
  clear c4
  obtain rfl := Option.some.inj H
  go_enter Try.func68, Try.ntmps68
  go_wp2
  go_ret
  exact ⟨by first | rfl | (simp; done) | (simp [*]; done), by repeat (first | exact Drawn0.refl _ | apply Drawn0.step)⟩
 ·rw [if_neg c4] at H
  have c4b0 : decide (a1 ≤ a0) = false := decide_eq_false c4
  clear c4
  obtain rfl := Option.some.inj H
  go_enter Try.func68, Try.ntmps68
  go_wp2
  go_ret
  exact ⟨by first | rfl | (simp; done) | (simp [*]; done), by repeat (first | exact Drawn0.refl _ | apply Drawn0.step)⟩

def spec_IsName.l0 : Nat → ByteArray → Int → Option (Bool)
 | 0, _, _ => none
 | k + 1, x0, x3 => if x3 < (x0.size : Int) then (if 0 ≤ x3 then (if (bt x0 x3) ≥ 97 then (if ((bt x0 x3) ≤ 122) then (spec_IsName.l0 k x0 (wrap64 (x3 + 1))) else (if x3 = 0 then (some false) else (if (bt x0 x3) < 48 then (some false) else (if (bt x0 x3) > 57 then (some false) else (spec_IsName.l0 k x0 (wrap64 (x3 + 1))))))) else (if x3 = 0 then (some false) else (if (bt x0 x3) < 48 then (some false) else (if (bt x0 x3) > 57 then (some false) else (spec_IsName.l0 k x0 (wrap64 (x3 + 1))))))) else (none)) else ((spec_l01In.f (x0.size : Int) 1 8).bind fun t173001 => (some t173001))
def spec_IsName.f (k : Nat) (a0 : ByteArray) : Option (Bool) := spec_IsName.l0 k a0 0
set_option maxHeartbeats 8000000 in
set_option maxRecDepth 100000 in
theorem spec_IsName.calls (k : Nat) (a0 : ByteArray) (r : Bool) (w : World) (h : spec_IsName.f k a0 = some r) :
  Calls Try.prog 173 #[.string a0] w fun e w' => e = .returned (.bool r) ∧ Drawn0 w w' := by
 have H : (spec_IsName.l0 k a0 0) = some r := h
 clear h
 have H' := Aside0.mk H
 clear H
 go_enter Try.func173, Try.ntmps173
 go_wp2
 go_loopg [3] k (fun kq v3 w' => ∃ (x3_1 : Int), v3 = .int .i64 x3_1 ∧ Aside0 (spec_IsName.l0 kq a0 x3_1 = some r) ∧ Aside0 (kq ≤ k) ∧ Drawn0 w w')
 case atStart => exact ⟨(0), (by first | rfl | (simp; done) | (simp [*]; done)), H', ⟨Nat.le_refl _⟩, by repeat (first | exact Drawn0.refl _ | apply Drawn0.step)⟩
 case round =>
  clear H'
  try clear c1
  obtain ⟨x3_1, rfl, HA, HK1, ⟨m1, rfl⟩⟩ := hrel
  cases gk with
  | zero => exact absurd HA.out (by simp [spec_IsName.l0])
  | succ k1 =>
   have H := HA.out
   clear HA
   simp only [spec_IsName.l0] at H
   by_cases c2 : x3_1 < (a0.size : Int)
   ·rw [if_pos c2] at H
    have c2b0 : decide (x3_1 < (a0.size : Int)) = true := decide_eq_true c2
    clear c2
    by_cases c3 : 0 ≤ x3_1
    ·rw [if_pos c3] at H
     have c3b0 : decide (0 ≤ x3_1) = true := decide_eq_true c3
     clear c3
     by_cases c5 : (bt a0 x3_1) ≥ 97
     ·rw [if_pos c5] at H
      have c5b0 : decide (97 ≤ (bt a0 x3_1)) = true := decide_eq_true c5
      clear c5
      by_cases c7 : ((bt a0 x3_1) ≤ 122)
      ·rw [if_pos c7] at H
       have c7b0 : decide ((bt a0 x3_1) ≤ 122) = true := decide_eq_true c7
       clear c7
       have H' := Aside0.mk H
       clear H
       have p4 : 0 ≤ (x3_1 : Int) := of_decide_eq_true (by with_reducible assumption)
       have q4 : x3_1 < (a0.size : Int) := of_decide_eq_true (by with_reducible assumption)
       have hx4 := bt_at a0 x3_1
       replace p4 := eq_true p4
       replace q4 := eq_true q4
       have p6 : 0 ≤ (x3_1 : Int) := of_decide_eq_true (by with_reducible assumption)
       have q6 : x3_1 < (a0.size : Int) := of_decide_eq_true (by with_reducible assumption)
       have hx6 := bt_at a0 x3_1
       replace p6 := eq_true p6
       replace q6 := eq_true q6
       go_wp2
       go_roundg k1
       case measure => have := HK1.out; omega
       case rel => exact ⟨(wrap64 (x3_1 + 1)), (by first | rfl | (simp; done) | (simp [*]; done)), H', ⟨by have := HK1.out; omega⟩, by repeat (first | exact Drawn0.refl _ | apply Drawn0.step)⟩
      ·rw [if_neg c7] at H
       have c7b0 : decide ((bt a0 x3_1) ≤ 122) = false := decide_eq_false c7
       clear c7
       by_cases c8 : x3_1 = 0
       ·rw [if_pos c8] at H
        have c8b0 : (x3_1 == 0) = true := beq_iff_eq.mpr c8
        have c8b1 : (x3_1 != 0) = false := bne_eq_false_iff_eq.mpr c8
        clear c8
        obtain rfl := Option.some.inj H
        have p4 : 0 ≤ (x3_1 : Int) := of_decide_eq_true (by with_reducible assumption)
        have q4 : x3_1 < (a0.size : Int) := of_decide_eq_true (by with_reducible assumption)
        have hx4 := bt_at a0 x3_1
        replace p4 := eq_true p4
        replace q4 := eq_true q4
        have p6 : 0 ≤ (x3_1 : Int) := of_decide_eq_true (by with_reducible assumption)
        have q6 : x3_1 < (a0.size : Int) := of_decide_eq_true (by with_reducible assumption)
        have hx6 := bt_at a0 x3_1
        replace p6 := eq_true p6
        replace q6 := eq_true q6
        go_wp2
        go_ret
        exact ⟨by first | rfl | (simp; done) | (simp [*]; done), by repeat (first | exact Drawn0.refl _ | apply Drawn0.step)⟩
       ·rw [if_neg c8] at H
        have c8b0 : (x3_1 == 0) = false := beq_eq_false_iff_ne.mpr c8
        have c8b1 : (x3_1 != 0) = true := bne_iff_ne.mpr c8
        by_cases c10 : (bt a0 x3_1) < 48
        ·rw [if_pos c10] at H
         have c10b0 : decide ((bt a0 x3_1) < 48) = true := decide_eq_true c10
         clear c10
         obtain rfl := Option.some.inj H
         have p4 : 0 ≤ (x3_1 : Int) := of_decide_eq_true (by with_reducible assumption)
         have q4 : x3_1 < (a0.size : Int) := of_decide_eq_true (by with_reducible assumption)
         have hx4 := bt_at a0 x3_1
         replace p4 := eq_true p4
         replace q4 := eq_true q4
         have p6 : 0 ≤ (x3_1 : Int) := of_decide_eq_true (by with_reducible assumption)
         have q6 : x3_1 < (a0.size : Int) := of_decide_eq_true (by with_reducible assumption)
         have hx6 := bt_at a0 x3_1
         replace p6 := eq_true p6
         replace q6 := eq_true q6
         have p9 : 0 ≤ (x3_1 : Int) := of_decide_eq_true (by with_reducible assumption)
         have q9 : x3_1 < (a0.size : Int) := of_decide_eq_true (by with_reducible assumption)
         have hx9 := bt_at a0 x3_1
         replace p9 := eq_true p9
         replace q9 := eq_true q9
         go_wp2
         go_ret
         exact ⟨by first | rfl | (simp; done) | (simp [*]; done), by repeat (first | exact Drawn0.refl _ | apply Drawn0.step)⟩
        ·rw [if_neg c10] at H
         have c10b0 : decide ((bt a0 x3_1) < 48) = false := decide_eq_false c10
         clear c10
         by_cases c12 : (bt a0 x3_1) > 57
         ·rw [if_pos c12] at H
          have c12b0 : decide (57 < (bt a0 x3_1)) = true := decide_eq_true c12
          clear c12
          obtain rfl := Option.some.inj H
          have p4 : 0 ≤ (x3_1 : Int) := of_decide_eq_true (by with_reducible assumption)
          have q4 : x3_1 < (a0.size : Int) := of_decide_eq_true (by with_reducible assumption)
          have hx4 := bt_at a0 x3_1
          replace p4 := eq_true p4
          replace q4 := eq_true q4
          have p6 : 0 ≤ (x3_1 : Int) := of_decide_eq_true (by with_reducible assumption)
          have q6 : x3_1 < (a0.size : Int) := of_decide_eq_true (by with_reducible assumption)
          have hx6 := bt_at a0 x3_1
          replace p6 := eq_true p6
          replace q6 := eq_true q6
          have p9 : 0 ≤ (x3_1 : Int) := of_decide_eq_true (by with_reducible assumption)
          have q9 : x3_1 < (a0.size : Int) := of_decide_eq_true (by with_reducible assumption)
          have hx9 := bt_at a0 x3_1
          replace p9 := eq_true p9
          replace q9 := eq_true q9
          have p11 : 0 ≤ (x3_1 : Int) := of_decide_eq_true (by with_reducible assumption)
          have q11 : x3_1 < (a0.size : Int) := of_decide_eq_true (by with_reducible assumption)
          have hx11 := bt_at a0 x3_1
          replace p11 := eq_true p11
          replace q11 := eq_true q11
          go_wp2
          go_ret
          exact ⟨by first | rfl | (simp; done) | (simp [*]; done), by repeat (first | exact Drawn0.refl _ | apply Drawn0.step)⟩
         ·rw [if_neg c12] at H
          have c12b0 : decide (57 < (bt a0 x3_1)) = false := decide_eq_false c12
          clear c12
          have H' := Aside0.mk H
          clear H
          have p4 : 0 ≤ (x3_1 : Int) := of_decide_eq_true (by with_reducible assumption)
          have q4 : x3_1 < (a0.size : Int) := of_decide_eq_true (by with_reducible assumption)
          have hx4 := bt_at a0 x3_1
          replace p4 := eq_true p4
          replace q4 := eq_true q4
          have p6 : 0 ≤ (x3_1 : Int) := of_decide_eq_true (by with_reducible assumption)
          have q6 : x3_1 < (a0.size : Int) := of_decide_eq_true (by with_reducible assumption)
          have hx6 := bt_at a0 x3_1
          replace p6 := eq_true p6
          replace q6 := eq_true q6
          have p9 : 0 ≤ (x3_1 : Int) := of_decide_eq_true (by with_reducible assumption)
          have q9 : x3_1 < (a0.size : Int) := of_decide_eq_true (by with_reducible assumption)
          have hx9 := bt_at a0 x3_1
          replace p9 := eq_true p9
          replace q9 := eq_true q9
          have p11 : 0 ≤ (x3_1 : Int) := of_decide_eq_true (by with_reducible assumption)
          have q11 : x3_1 < (a0.size : Int) := of_decide_eq_true (by with_reducible assumption)
          have hx11 := bt_at a0 x3_1
          replace p11 := eq_true p11
          replace q11 := eq_true q11
          go_wp2
          go_roundg k1
          case measure => have := HK1.out; omega
          case rel => exact ⟨(wrap64 (x3_1 + 1)), (by first | rfl | (simp; done) | (simp [*]; done)), H', ⟨by have := HK1.out; omega⟩, by repeat (first | exact Drawn0.refl _ | apply Drawn0.step)⟩
     ·rw [if_neg c5] at H
      have c5b0 : decide (97 ≤ (bt a0 x3_1)) = false := decide_eq_false c5
      clear c5
      by_cases c13 : x3_1 = 0
      ·rw [if_pos c13] at H
       have c13b0 : (x3_1 == 0) = true := beq_iff_eq.mpr c13
       have c13b1 : (x3_1 != 0) = false := bne_eq_false_iff_eq.mpr c13
       clear c13
       obtain rfl := Option.some.inj H
       have p4 : 0 ≤ (x3_1 : Int) := of_decide_eq_true (by with_reducible assumption)
       have q4 : x3_1 < (a0.size : Int) := of_decide_eq_true (by with_reducible assumption)
       have hx4 := bt_at a0 x3_1
       replace p4 := eq_true p4
       replace q4 := eq_true q4
       go_wp2
       go_ret
       exact ⟨by first | rfl | (simp; done) | (simp [*]; done), by repeat (first | exact Drawn0.refl _ | apply Drawn0.step)⟩
      ·rw [if_neg c13] at H
       have c13b0 : (x3_1 == 0) = false := beq_eq_false_iff_ne.mpr c13
       have c13b1 : (x3_1 != 0) = true := bne_iff_ne.mpr c13
       by_cases c15 : (bt a0 x3_1) < 48
       ·rw [if_pos c15] at H
        have c15b0 : decide ((bt a0 x3_1) < 48) = true := decide_eq_true c15
        clear c15
        obtain rfl := Option.some.inj H
        have p4 : 0 ≤ (x3_1 : Int) := of_decide_eq_true (by with_reducible assumption)
        have q4 : x3_1 < (a0.size : Int) := of_decide_eq_true (by with_reducible assumption)
        have hx4 := bt_at a0 x3_1
        replace p4 := eq_true p4
        replace q4 := eq_true q4
        have p14 : 0 ≤ (x3_1 : Int) := of_decide_eq_true (by with_reducible assumption)
        have q14 : x3_1 < (a0.size : Int) := of_decide_eq_true (by with_reducible assumption)
        have hx14 := bt_at a0 x3_1
        replace p14 := eq_true p14
        replace q14 := eq_true q14
        go_wp2
        go_ret
        exact ⟨by first | rfl | (simp; done) | (simp [*]; done), by repeat (first | exact Drawn0.refl _ | apply Drawn0.step)⟩
       ·rw [if_neg c15] at H
        have c15b0 : decide ((bt a0 x3_1) < 48) = false := decide_eq_false c15
        clear c15
        by_cases c17 : (bt a0 x3_1) > 57
        ·rw [if_pos c17] at H
         have c17b0 : decide (57 < (bt a0 x3_1)) = true := decide_eq_true c17
         clear c17
         obtain rfl := Option.some.inj H
         have p4 : 0 ≤ (x3_1 : Int) := of_decide_eq_true (by with_reducible assumption)
         have q4 : x3_1 < (a0.size : Int) := of_decide_eq_true (by with_reducible assumption)
         have hx4 := bt_at a0 x3_1
         replace p4 := eq_true p4
         replace q4 := eq_true q4
         have p14 : 0 ≤ (x3_1 : Int) := of_decide_eq_true (by with_reducible assumption)
         have q14 : x3_1 < (a0.size : Int) := of_decide_eq_true (by with_reducible assumption)
         have hx14 := bt_at a0 x3_1
         replace p14 := eq_true p14
         replace q14 := eq_true q14
         have p16 : 0 ≤ (x3_1 : Int) := of_decide_eq_true (by with_reducible assumption)
         have q16 : x3_1 < (a0.size : Int) := of_decide_eq_true (by with_reducible assumption)
         have hx16 := bt_at a0 x3_1
         replace p16 := eq_true p16
         replace q16 := eq_true q16
         go_wp2
         go_ret
         exact ⟨by first | rfl | (simp; done) | (simp [*]; done), by repeat (first | exact Drawn0.refl _ | apply Drawn0.step)⟩
        ·rw [if_neg c17] at H
         have c17b0 : decide (57 < (bt a0 x3_1)) = false := decide_eq_false c17
         clear c17
         have H' := Aside0.mk H
         clear H
         have p4 : 0 ≤ (x3_1 : Int) := of_decide_eq_true (by with_reducible assumption)
         have q4 : x3_1 < (a0.size : Int) := of_decide_eq_true (by with_reducible assumption)
         have hx4 := bt_at a0 x3_1
         replace p4 := eq_true p4
         replace q4 := eq_true q4
         have p14 : 0 ≤ (x3_1 : Int) := of_decide_eq_true (by with_reducible assumption)
         have q14 : x3_1 < (a0.size : Int) := of_decide_eq_true (by with_reducible assumption)
         have hx14 := bt_at a0 x3_1
         replace p14 := eq_true p14
         replace q14 := eq_true q14
         have p16 : 0 ≤ (x3_1 : Int) := of_decide_eq_true (by with_reducible assumption)
         have q16 : x3_1 < (a0.size : Int) := of_decide_eq_true (by with_reducible assumption)
         have hx16 := bt_at a0 x3_1
         replace p16 := eq_true p16
         replace q16 := eq_true q16
         go_wp2
         go_roundg k1
         case measure => have := HK1.out; omega
         case rel => exact ⟨(wrap64 (x3_1 + 1)), (by first | rfl | (simp; done) | (simp [*]; done)), H', ⟨by have := HK1.out; omega⟩, by repeat (first | exact Drawn0.refl _ | apply Drawn0.step)⟩
    ·rw [if_neg c3] at H
     exact absurd H (by simp)
   ·rw [if_neg c2] at H
    have c2b0 : decide (x3_1 < (a0.size : Int)) = false := decide_eq_false c2
    clear c2
    replace H := Option.bind_eq_some_iff.mp H
    obtain ⟨t173001, A180, H⟩ := H
    replace H : (some t173001) = some r := H
    have A18 := Aside0.mk A180; clear A180
    obtain rfl := Option.some.inj H
    go_wp2_with (first | ((with_reducible refine gate_callee (f := 68) rfl ?_); refine goesL_ (some 41) rfl rfl Try.func68 (by kernel_rfl) rfl #[.int .i64 (a0.size : Int), .int .i64 1, .int .i64 8] rfl (by (try simp only [List.map_toArray, List.map_cons, List.map_nil]); first | done | rfl | (simp only [List.length_drop, List.length_take]; rfl)) ?_; (with_reducible refine (spec_l01In.calls (a0.size : Int) 1 8 t173001 _ A18.out).mono ?_); rintro e w' ⟨rfl, ⟨nd, rfl⟩⟩; refine ⟨_, rfl, ?_⟩))
    go_ret
    exact ⟨by first | rfl | (simp; done) | (simp [*]; done), by repeat (first | exact Drawn0.refl _ | apply Drawn0.step)⟩

def impl_IsName.l0 : Nat → ByteArray → Int → Option (Bool)
 | 0, _, _ => none
 | k + 1, x0, x3 => if x3 < (x0.size : Int) then (if 0 ≤ x3 then (if (bt x0 x3) ≥ 97 then (if (bt x0 x3) ≥ 48 then (if ((bt x0 x3) ≤ 122) then (impl_IsName.l0 k x0 (wrap64 (x3 + 1))) else (if ((bt x0 x3) ≤ 57) then (if x3 = 0 then (some false) else (impl_IsName.l0 k x0 (wrap64 (x3 + 1)))) else (some false))) else (if ((bt x0 x3) ≤ 122) then (impl_IsName.l0 k x0 (wrap64 (x3 + 1))) else (some false))) else (if (bt x0 x3) ≥ 48 then (if ((bt x0 x3) ≤ 57) then (if x3 = 0 then (some false) else (impl_IsName.l0 k x0 (wrap64 (x3 + 1)))) else (some false)) else (some false))) else (none)) else (if (x0.size : Int) ≥ 1 then (some (decide ((x0.size : Int) ≤ 8))) else (some false))
def impl_IsName.f (k : Nat) (a0 : ByteArray) : Option (Bool) := impl_IsName.l0 k a0 0
set_option maxHeartbeats 8000000 in
set_option maxRecDepth 100000 in
theorem impl_IsName.calls (k : Nat) (a0 : ByteArray) (r : Bool) (w : World) (h : impl_IsName.f k a0 = some r) :
  Calls Try.prog 175 #[.string a0] w fun e w' => e = .returned (.bool r) ∧ Drawn0 w w' := by
 have H : (impl_IsName.l0 k a0 0) = some r := h
 clear h
 have H' := Aside0.mk H
 clear H
 go_enter Try.func175, Try.ntmps175
 go_wp2
 repeat (go_quiet (fail); try go_wp2)
 go_loopg [3] k (fun kq v3 w' => ∃ (x3_1 : Int), v3 = .int .i64 x3_1 ∧ Aside0 (impl_IsName.l0 kq a0 x3_1 = some r) ∧ Aside0 (kq ≤ k) ∧ Drawn0 w w')
 case atStart => exact ⟨(0), (by first | rfl | (simp; done) | (simp [*]; done)), H', ⟨Nat.le_refl _⟩, by repeat (first | exact Drawn0.refl _ | apply Drawn0.step)⟩
 case round =>
  clear H'
  try clear c1
  obtain ⟨x3_1, rfl, HA, HK1, ⟨m1, rfl⟩⟩ := hrel
  cases gk with
  | zero => exact absurd HA.out (by simp [impl_IsName.l0])
  | succ k1 =>
   have H := HA.out
   clear HA
   simp only [impl_IsName.l0] at H
   by_cases c2 : x3_1 < (a0.size : Int)
   ·rw [if_pos c2] at H
    have c2b0 : decide (x3_1 < (a0.size : Int)) = true := decide_eq_true c2
    clear c2
    by_cases c3 : 0 ≤ x3_1
    ·rw [if_pos c3] at H
     have c3b0 : decide (0 ≤ x3_1) = true := decide_eq_true c3
     clear c3
     by_cases c5 : (bt a0 x3_1) ≥ 97
     ·rw [if_pos c5] at H
      have c5b0 : decide (97 ≤ (bt a0 x3_1)) = true := decide_eq_true c5
      clear c5
      by_cases c8 : (bt a0 x3_1) ≥ 48
      ·rw [if_pos c8] at H
       have c8b0 : decide (48 ≤ (bt a0 x3_1)) = true := decide_eq_true c8
       clear c8
       by_cases c10 : ((bt a0 x3_1) ≤ 122)
       ·rw [if_pos c10] at H
        have c10b0 : decide ((bt a0 x3_1) ≤ 122) = true := decide_eq_true c10
        clear c10
        have H' := Aside0.mk H
        clear H
        have p4 : 0 ≤ (x3_1 : Int) := of_decide_eq_true (by with_reducible assumption)
        have q4 : x3_1 < (a0.size : Int) := of_decide_eq_true (by with_reducible assumption)
        have hx4 := bt_at a0 x3_1
        replace p4 := eq_true p4
        replace q4 := eq_true q4
        have p6 : 0 ≤ (x3_1 : Int) := of_decide_eq_true (by with_reducible assumption)
        have q6 : x3_1 < (a0.size : Int) := of_decide_eq_true (by with_reducible assumption)
        have hx6 := bt_at a0 x3_1
        replace p6 := eq_true p6
        replace q6 := eq_true q6
        have p7 : 0 ≤ (x3_1 : Int) := of_decide_eq_true (by with_reducible assumption)
        have q7 : x3_1 < (a0.size : Int) := of_decide_eq_true (by with_reducible assumption)
        have hx7 := bt_at a0 x3_1
        replace p7 := eq_true p7
        replace q7 := eq_true q7
        have p9 : 0 ≤ (x3_1 : Int) := of_decide_eq_true (by with_reducible assumption)
        have q9 : x3_1 < (a0.size : Int) := of_decide_eq_true (by with_reducible assumption)
        have hx9 := bt_at a0 x3_1
        replace p9 := eq_true p9
        replace q9 := eq_true q9
        go_wp2
        repeat (go_quiet (fail); try go_wp2)
        go_roundg k1
        case measure => have := HK1.out; omega
        case rel => exact ⟨(wrap64 (x3_1 + 1)), (by first | rfl | (simp; done) | (simp [*]; done)), H', ⟨by have := HK1.out; omega⟩, by repeat (first | exact Drawn0.refl _ | apply Drawn0.step)⟩
       ·rw [if_neg c10] at H
        have c10b0 : decide ((bt a0 x3_1) ≤ 122) = false := decide_eq_false c10
        clear c10
        by_cases c11 : ((bt a0 x3_1) ≤ 57)
        ·rw [if_pos c11] at H
         have c11b0 : decide ((bt a0 x3_1) ≤ 57) = true := decide_eq_true c11
         clear c11
         by_cases c12 : x3_1 = 0
         ·rw [if_pos c12] at H
          have c12b0 : (x3_1 == 0) = true := beq_iff_eq.mpr c12
          have c12b1 : (x3_1 != 0) = false := bne_eq_false_iff_eq.mpr c12
          clear c12
          obtain rfl := Option.some.inj H
          have p4 : 0 ≤ (x3_1 : Int) := of_decide_eq_true (by with_reducible assumption)
          have q4 : x3_1 < (a0.size : Int) := of_decide_eq_true (by with_reducible assumption)
          have hx4 := bt_at a0 x3_1
          replace p4 := eq_true p4
          replace q4 := eq_true q4
          have p6 : 0 ≤ (x3_1 : Int) := of_decide_eq_true (by with_reducible assumption)
          have q6 : x3_1 < (a0.size : Int) := of_decide_eq_true (by with_reducible assumption)
          have hx6 := bt_at a0 x3_1
          replace p6 := eq_true p6
          replace q6 := eq_true q6
          have p7 : 0 ≤ (x3_1 : Int) := of_decide_eq_true (by with_reducible assumption)
          have q7 : x3_1 < (a0.size : Int) := of_decide_eq_true (by with_reducible assumption)
          have hx7 := bt_at a0 x3_1
          replace p7 := eq_true p7
          replace q7 := eq_true q7
          have p9 : 0 ≤ (x3_1 : Int) := of_decide_eq_true (by with_reducible assumption)
          have q9 : x3_1 < (a0.size : Int) := of_decide_eq_true (by with_reducible assumption)
          have hx9 := bt_at a0 x3_1
          replace p9 := eq_true p9
          replace q9 := eq_true q9
          go_wp2
          repeat (go_quiet (fail); try go_wp2)
          go_ret
          exact ⟨by first | rfl | (simp; done) | (simp [*]; done), by repeat (first | exact Drawn0.refl _ | apply Drawn0.step)⟩
         ·rw [if_neg c12] at H
          have c12b0 : (x3_1 == 0) = false := beq_eq_false_iff_ne.mpr c12
          have c12b1 : (x3_1 != 0) = true := bne_iff_ne.mpr c12
          have H' := Aside0.mk H
          clear H
          have p4 : 0 ≤ (x3_1 : Int) := of_decide_eq_true (by with_reducible assumption)
          have q4 : x3_1 < (a0.size : Int) := of_decide_eq_true (by with_reducible assumption)
          have hx4 := bt_at a0 x3_1
          replace p4 := eq_true p4
          replace q4 := eq_true q4
          have p6 : 0 ≤ (x3_1 : Int) := of_decide_eq_true (by with_reducible assumption)
          have q6 : x3_1 < (a0.size : Int) := of_decide_eq_true (by with_reducible assumption)
          have hx6 := bt_at a0 x3_1
          replace p6 := eq_true p6
          replace q6 := eq_true q6
          have p7 : 0 ≤ (x3_1 : Int) := of_decide_eq_true (by with_reducible assumption)
          have q7 : x3_1 < (a0.size : Int) := of_decide_eq_true (by with_reducible assumption)
          have hx7 := bt_at a0 x3_1
          replace p7 := eq_true p7
          replace q7 := eq_true q7
          have p9 : 0 ≤ (x3_1 : Int) := of_decide_eq_true (by with_reducible assumption)
          have q9 : x3_1 < (a0.size : Int) := of_decide_eq_true (by with_reducible assumption)
          have hx9 := bt_at a0 x3_1
          replace p9 := eq_true p9
          replace q9 := eq_true q9
          go_wp2
          repeat (go_quiet (fail); try go_wp2)
          go_roundg k1
          case measure => have := HK1.out; omega
          case rel => exact ⟨(wrap64 (x3_1 + 1)), (by first | rfl | (simp; done) | (simp [*]; done)), H', ⟨by have := HK1.out; omega⟩, by repeat (first | exact Drawn0.refl _ | apply Drawn0.step)⟩
        ·rw [if_neg c11] at H
         have c11b0 : decide ((bt a0 x3_1) ≤ 57) = false := decide_eq_false c11
         clear c11
         obtain rfl := Option.some.inj H
         have p4 : 0 ≤ (x3_1 : Int) := of_decide_eq_true (by with_reducible assumption)
         have q4 : x3_1 < (a0.size : Int) := of_decide_eq_true (by with_reducible assumption)
         have hx4 := bt_at a0 x3_1
         replace p4 := eq_true p4
         replace q4 := eq_true q4
         have p6 : 0 ≤ (x3_1 : Int) := of_decide_eq_true (by with_reducible assumption)
         have q6 : x3_1 < (a0.size : Int) := of_decide_eq_true (by with_reducible assumption)
         have hx6 := bt_at a0 x3_1
         replace p6 := eq_true p6
         replace q6 := eq_true q6
         have p7 : 0 ≤ (x3_1 : Int) := of_decide_eq_true (by with_reducible assumption)
         have q7 : x3_1 < (a0.size : Int) := of_decide_eq_true (by with_reducible assumption)
         have hx7 := bt_at a0 x3_1
         replace p7 := eq_true p7
         replace q7 := eq_true q7
         have p9 : 0 ≤ (x3_1 : Int) := of_decide_eq_true (by with_reducible assumption)
         have q9 : x3_1 < (a0.size : Int) := of_decide_eq_true (by with_reducible assumption)
         have hx9 := bt_at a0 x3_1
         replace p9 := eq_true p9
         replace q9 := eq_true q9
         go_wp2
         repeat (go_quiet (fail); try go_wp2)
         go_ret
         exact ⟨by first | rfl | (simp; done) | (simp [*]; done), by repeat (first | exact Drawn0.refl _ | apply Drawn0.step)⟩
      ·rw [if_neg c8] at H
       have c8b0 : decide (48 ≤ (bt a0 x3_1)) = false := decide_eq_false c8
       clear c8
       by_cases c13 : ((bt a0 x3_1) ≤ 122)
       ·rw [if_pos c13] at H
        have c13b0 : decide ((bt a0 x3_1) ≤ 122) = true := decide_eq_true c13
        clear c13
        have H' := Aside0.mk H
        clear H
        have p4 : 0 ≤ (x3_1 : Int) := of_decide_eq_true (by with_reducible assumption)
        have q4 : x3_1 < (a0.size : Int) := of_decide_eq_true (by with_reducible assumption)
        have hx4 := bt_at a0 x3_1
        replace p4 := eq_true p4
        replace q4 := eq_true q4
        have p6 : 0 ≤ (x3_1 : Int) := of_decide_eq_true (by with_reducible assumption)
        have q6 : x3_1 < (a0.size : Int) := of_decide_eq_true (by with_reducible assumption)
        have hx6 := bt_at a0 x3_1
        replace p6 := eq_true p6
        replace q6 := eq_true q6
        have p7 : 0 ≤ (x3_1 : Int) := of_decide_eq_true (by with_reducible assumption)
        have q7 : x3_1 < (a0.size : Int) := of_decide_eq_true (by with_reducible assumption)
        have hx7 := bt_at a0 x3_1
        replace p7 := eq_true p7
        replace q7 := eq_true q7
        go_wp2
        repeat (go_quiet (fail); try go_wp2)
        go_roundg k1
        case measure => have := HK1.out; omega
        case rel => exact ⟨(wrap64 (x3_1 + 1)), (by first | rfl | (simp; done) | (simp [*]; done)), H', ⟨by have := HK1.out; omega⟩, by repeat (first | exact Drawn0.refl _ | apply Drawn0.step)⟩
       ·rw [if_neg c13] at H
        have c13b0 : decide ((bt a0 x3_1) ≤ 122) = false := decide_eq_false c13
        clear c13
        obtain rfl := Option.some.inj H
        have p4 : 0 ≤ (x3_1 : Int) := of_decide_eq_true (by with_reducible assumption)
        have q4 : x3_1 < (a0.size : Int) := of_decide_eq_true (by with_reducible assumption)
        have hx4 := bt_at a0 x3_1
        replace p4 := eq_true p4
        replace q4 := eq_true q4
        have p6 : 0 ≤ (x3_1 : Int) := of_decide_eq_true (by with_reducible assumption)
        have q6 : x3_1 < (a0.size : Int) := of_decide_eq_true (by with_reducible assumption)
        have hx6 := bt_at a0 x3_1
        replace p6 := eq_true p6
        replace q6 := eq_true q6
        have p7 : 0 ≤ (x3_1 : Int) := of_decide_eq_true (by with_reducible assumption)
        have q7 : x3_1 < (a0.size : Int) := of_decide_eq_true (by with_reducible assumption)
        have hx7 := bt_at a0 x3_1
        replace p7 := eq_true p7
        replace q7 := eq_true q7
        go_wp2
        repeat (go_quiet (fail); try go_wp2)
        go_ret
        exact ⟨by first | rfl | (simp; done) | (simp [*]; done), by repeat (first | exact Drawn0.refl _ | apply Drawn0.step)⟩
     ·rw [if_neg c5] at H
      have c5b0 : decide (97 ≤ (bt a0 x3_1)) = false := decide_eq_false c5
      clear c5
      by_cases c15 : (bt a0 x3_1) ≥ 48
      ·rw [if_pos c15] at H
       have c15b0 : decide (48 ≤ (bt a0 x3_1)) = true := decide_eq_true c15
       clear c15
       by_cases c17 : ((bt a0 x3_1) ≤ 57)
       ·rw [if_pos c17] at H
        have c17b0 : decide ((bt a0 x3_1) ≤ 57) = true := decide_eq_true c17
        clear c17
        by_cases c18 : x3_1 = 0
        ·rw [if_pos c18] at H
         have c18b0 : (x3_1 == 0) = true := beq_iff_eq.mpr c18
         have c18b1 : (x3_1 != 0) = false := bne_eq_false_iff_eq.mpr c18
         clear c18
         obtain rfl := Option.some.inj H
         have p4 : 0 ≤ (x3_1 : Int) := of_decide_eq_true (by with_reducible assumption)
         have q4 : x3_1 < (a0.size : Int) := of_decide_eq_true (by with_reducible assumption)
         have hx4 := bt_at a0 x3_1
         replace p4 := eq_true p4
         replace q4 := eq_true q4
         have p14 : 0 ≤ (x3_1 : Int) := of_decide_eq_true (by with_reducible assumption)
         have q14 : x3_1 < (a0.size : Int) := of_decide_eq_true (by with_reducible assumption)
         have hx14 := bt_at a0 x3_1
         replace p14 := eq_true p14
         replace q14 := eq_true q14
         have p16 : 0 ≤ (x3_1 : Int) := of_decide_eq_true (by with_reducible assumption)
         have q16 : x3_1 < (a0.size : Int) := of_decide_eq_true (by with_reducible assumption)
         have hx16 := bt_at a0 x3_1
         replace p16 := eq_true p16
         replace q16 := eq_true q16
         go_wp2
         repeat (go_quiet (fail); try go_wp2)
         go_ret
         exact ⟨by first | rfl | (simp; done) | (simp [*]; done), by repeat (first | exact Drawn0.refl _ | apply Drawn0.step)⟩
        ·rw [if_neg c18] at H
         have c18b0 : (x3_1 == 0) = false := beq_eq_false_iff_ne.mpr c18
         have c18b1 : (x3_1 != 0) = true := bne_iff_ne.mpr c18
         have H' := Aside0.mk H
         clear H
         have p4 : 0 ≤ (x3_1 : Int) := of_decide_eq_true (by with_reducible assumption)
         have q4 : x3_1 < (a0.size : Int) := of_decide_eq_true (by with_reducible assumption)
         have hx4 := bt_at a0 x3_1
         replace p4 := eq_true p4
         replace q4 := eq_true q4
         have p14 : 0 ≤ (x3_1 : Int) := of_decide_eq_true (by with_reducible assumption)
         have q14 : x3_1 < (a0.size : Int) := of_decide_eq_true (by with_reducible assumption)
         have hx14 := bt_at a0 x3_1
         replace p14 := eq_true p14
         replace q14 := eq_true q14
         have p16 : 0 ≤ (x3_1 : Int) := of_decide_eq_true (by with_reducible assumption)
         have q16 : x3_1 < (a0.size : Int) := of_decide_eq_true (by with_reducible assumption)
         have hx16 := bt_at a0 x3_1
         replace p16 := eq_true p16
         replace q16 := eq_true q16
         go_wp2
         repeat (go_quiet (fail); try go_wp2)
         go_roundg k1
         case measure => have := HK1.out; omega
         case rel => exact ⟨(wrap64 (x3_1 + 1)), (by first | rfl | (simp; done) | (simp [*]; done)), H', ⟨by have := HK1.out; omega⟩, by repeat (first | exact Drawn0.refl _ | apply Drawn0.step)⟩
       ·rw [if_neg c17] at H
        have c17b0 : decide ((bt a0 x3_1) ≤ 57) = false := decide_eq_false c17
        clear c17
        obtain rfl := Option.some.inj H
        have p4 : 0 ≤ (x3_1 : Int) := of_decide_eq_true (by with_reducible assumption)
        have q4 : x3_1 < (a0.size : Int) := of_decide_eq_true (by with_reducible assumption)
        have hx4 := bt_at a0 x3_1
        replace p4 := eq_true p4
        replace q4 := eq_true q4
        have p14 : 0 ≤ (x3_1 : Int) := of_decide_eq_true (by with_reducible assumption)
        have q14 : x3_1 < (a0.size : Int) := of_decide_eq_true (by with_reducible assumption)
        have hx14 := bt_at a0 x3_1
        replace p14 := eq_true p14
        replace q14 := eq_true q14
        have p16 : 0 ≤ (x3_1 : Int) := of_decide_eq_true (by with_reducible assumption)
        have q16 : x3_1 < (a0.size : Int) := of_decide_eq_true (by with_reducible assumption)
        have hx16 := bt_at a0 x3_1
        replace p16 := eq_true p16
        replace q16 := eq_true q16
        go_wp2
        repeat (go_quiet (fail); try go_wp2)
        go_ret
        exact ⟨by first | rfl | (simp; done) | (simp [*]; done), by repeat (first | exact Drawn0.refl _ | apply Drawn0.step)⟩
      ·rw [if_neg c15] at H
       have c15b0 : decide (48 ≤ (bt a0 x3_1)) = false := decide_eq_false c15
       clear c15
       obtain rfl := Option.some.inj H
       have p4 : 0 ≤ (x3_1 : Int) := of_decide_eq_true (by with_reducible assumption)
       have q4 : x3_1 < (a0.size : Int) := of_decide_eq_true (by with_reducible assumption)
       have hx4 := bt_at a0 x3_1
       replace p4 := eq_true p4
       replace q4 := eq_true q4
       have p14 : 0 ≤ (x3_1 : Int) := of_decide_eq_true (by with_reducible assumption)
       have q14 : x3_1 < (a0.size : Int) := of_decide_eq_true (by with_reducible assumption)
       have hx14 := bt_at a0 x3_1
       replace p14 := eq_true p14
       replace q14 := eq_true q14
       go_wp2
       repeat (go_quiet (fail); try go_wp2)
       go_ret
       exact ⟨by first | rfl | (simp; done) | (simp [*]; done), by repeat (first | exact Drawn0.refl _ | apply Drawn0.step)⟩
    ·rw [if_neg c3] at H
     exact absurd H (by simp)
   ·rw [if_neg c2] at H
    have c2b0 : decide (x3_1 < (a0.size : Int)) = false := decide_eq_false c2
    clear c2
    by_cases c19 : (a0.size : Int) ≥ 1
    ·rw [if_pos c19] at H
     have c19b0 : decide (1 ≤ (a0.size : Int)) = true := decide_eq_true c19
     have c19b1 : decide (1 ≤ a0.size) = true := decide_eq_true (by omega)
     clear c19
     obtain rfl := Option.some.inj H
     go_wp2
     repeat (go_quiet (fail); try go_wp2)
     go_ret
     exact ⟨by first | rfl | (simp; done) | (simp [*]; done), by repeat (first | exact Drawn0.refl _ | apply Drawn0.step)⟩
    ·rw [if_neg c19] at H
     have c19b0 : decide (1 ≤ (a0.size : Int)) = false := decide_eq_false c19
     have c19b1 : decide (1 ≤ a0.size) = false := decide_eq_false (by omega)
     clear c19
     obtain rfl := Option.some.inj H
     go_wp2
     repeat (go_quiet (fail); try go_wp2)
     go_ret
     exact ⟨by first | rfl | (simp; done) | (simp [*]; done), by repeat (first | exact Drawn0.refl _ | apply Drawn0.step)⟩

end Go.Proofs.Ytodfnelilhjoeaa.Pr
namespace Go.Proofs.Ytodfnelilhjoeaa.Pr
open Go.RowKit Go.Proofs.YtodfnelilhjoeaaW.PrintWords Go.Proofs.Ytodfnelilhjoeaa.Ni
def chB (s : ByteArray) (i : Nat) : Bool := (decide (97 ≤ bt s i) && decide (bt s i ≤ 122)) || (decide (0 < i) && decide (48 ≤ bt s i) && decide (bt s i ≤ 57))
def chsB (s : ByteArray) (i : Nat) : Nat → Bool
 | 0 => true
 | d + 1 => chB s i && chsB s (i + 1) d
def nameB (s : ByteArray) : Bool := chsB s 0 s.size && (decide (1 ≤ s.size) && decide (s.size ≤ 8))
theorem spec_IsName_f (s : ByteArray) (hs : s.size ≤ 9223372036854775807) (k : Nat) (hk : 2 ^ 64 ≤ k) : spec_IsName.f k s = some (nameB s) := by
 have key := loop_up s.size (fun k i => spec_IsName.l0 k s (i : Int) = some (chsB s i (s.size - i) && (decide (1 ≤ s.size) && decide (s.size ≤ 8)))) 0
  (fun k _ => by
   simp only [spec_IsName.l0]
   rw [if_neg (by omega), Nat.sub_self]
   unfold spec_l01In.f chsB
   by_cases h1 : 1 ≤ s.size
   ·rw [if_pos (by omega), decide_eq_true h1]
    simp only [Option.bind_some, Bool.true_and]
    congr 1
    rw [Bool.eq_iff_iff]; simp; omega
   ·rw [if_neg (by omega), decide_eq_false h1]; rfl)
  (fun k i _ hi ih => by
   simp only [spec_IsName.l0]
   rw [if_pos (by omega), if_pos (by omega), wrap_nat hi (by omega), ih, show chsB s i (s.size - i) = (chB s i && chsB s (i + 1) (s.size - (i + 1))) by rw [show s.size - i = (s.size - (i + 1)) + 1 by omega]; rfl]
   have hF : chB s i = false → (chB s i && chsB s (i + 1) (s.size - (i + 1)) && (decide (1 ≤ s.size) && decide (s.size ≤ 8))) = false := fun h => by rw [h]; rfl
   have hT : chB s i = true → (chB s i && chsB s (i + 1) (s.size - (i + 1)) && (decide (1 ≤ s.size) && decide (s.size ≤ 8))) = (chsB s (i + 1) (s.size - (i + 1)) && (decide (1 ≤ s.size) && decide (s.size ≤ 8))) := fun h => by rw [h, Bool.true_and]
   generalize hc : bt s (i : Int) = c at *
   have hch : chB s i = ((decide (97 ≤ c) && decide (c ≤ 122)) || (decide (0 < i) && decide (48 ≤ c) && decide (c ≤ 57))) := by unfold chB; rw [hc]
   by_cases a1 : c ≥ 97
   ·rw [if_pos a1]
    by_cases a2 : c ≤ 122
    ·rw [if_pos a2, hT (by rw [hch]; simp; omega)]
    ·rw [if_neg a2, hF (by rw [hch]; simp; omega)]
     split
     ·rfl
     ·split
      ·rfl
      ·rw [if_pos (by omega)]
   ·rw [if_neg a1]
    by_cases b0 : (i : Int) = 0
    ·rw [if_pos b0, hF (by rw [hch]; simp; omega)]
    ·rw [if_neg b0]
     by_cases b1 : c < 48
     ·rw [if_pos b1, hF (by rw [hch]; simp; omega)]
     ·rw [if_neg b1]
      by_cases b2 : c > 57
      ·rw [if_pos b2, hF (by rw [hch]; simp; omega)]
      ·rw [if_neg b2, hT (by rw [hch]; simp; omega)]) 0 k (Nat.zero_le _) (by omega)
 unfold spec_IsName.f nameB
 simpa using key
theorem impl_IsName_f (s : ByteArray) (hs : s.size ≤ 9223372036854775807) (k : Nat) (hk : 2 ^ 64 ≤ k) : impl_IsName.f k s = some (nameB s) := by
 have key := loop_up s.size (fun k i => impl_IsName.l0 k s (i : Int) = some (chsB s i (s.size - i) && (decide (1 ≤ s.size) && decide (s.size ≤ 8)))) 0
  (fun k _ => by
   simp only [impl_IsName.l0]
   rw [if_neg (by omega), Nat.sub_self]
   unfold chsB
   by_cases h1 : 1 ≤ s.size
   ·rw [if_pos (by omega), decide_eq_true h1]
    simp only [Bool.true_and]
    congr 1
    rw [Bool.eq_iff_iff]; simp; omega
   ·rw [if_neg (by omega), decide_eq_false h1]; rfl)
  (fun k i _ hi ih => by
   simp only [impl_IsName.l0]
   rw [if_pos (by omega), if_pos (by omega), wrap_nat hi (by omega), ih, show chsB s i (s.size - i) = (chB s i && chsB s (i + 1) (s.size - (i + 1))) by rw [show s.size - i = (s.size - (i + 1)) + 1 by omega]; rfl]
   have hF : chB s i = false → (chB s i && chsB s (i + 1) (s.size - (i + 1)) && (decide (1 ≤ s.size) && decide (s.size ≤ 8))) = false := fun h => by rw [h]; rfl
   have hT : chB s i = true → (chB s i && chsB s (i + 1) (s.size - (i + 1)) && (decide (1 ≤ s.size) && decide (s.size ≤ 8))) = (chsB s (i + 1) (s.size - (i + 1)) && (decide (1 ≤ s.size) && decide (s.size ≤ 8))) := fun h => by rw [h, Bool.true_and]
   generalize hc : bt s (i : Int) = c at *
   have hch : chB s i = ((decide (97 ≤ c) && decide (c ≤ 122)) || (decide (0 < i) && decide (48 ≤ c) && decide (c ≤ 57))) := by unfold chB; rw [hc]
   by_cases a1 : c ≥ 97
   ·rw [if_pos a1, if_pos (by omega)]
    by_cases a2 : c ≤ 122
    ·rw [if_pos a2, hT (by rw [hch]; simp; omega)]
    ·rw [if_neg a2, if_neg (by omega), hF (by rw [hch]; simp; omega)]
   ·rw [if_neg a1]
    by_cases b1 : c ≥ 48
    ·rw [if_pos b1]
     by_cases b2 : c ≤ 57
     ·rw [if_pos b2]
      by_cases b0 : (i : Int) = 0
      ·rw [if_pos b0, hF (by rw [hch]; simp; omega)]
      ·rw [if_neg b0, hT (by rw [hch]; simp; omega)]
     ·rw [if_neg b2, hF (by rw [hch]; simp; omega)]
    ·rw [if_neg b1, hF (by rw [hch]; simp; omega)]) 0 k (Nat.zero_le _) (by omega)
 unfold impl_IsName.f nameB
 simpa using key
end Go.Proofs.Ytodfnelilhjoeaa.Pr
namespace Go.Proofs.Ytodfnelilhjoeaa.Pr
open Go.RowKit Go.Proofs.YtodfnelilhjoeaaW.PrintWords Go.Proofs.YtodfnelilhjoeaaW.PrintLast Go.Proofs.YtodfnelilhjoeaaW.PrintMore
attribute [local go_sem] max2_int min2_int max_two min_two max_three min_three max_four min_four
set_option linter.unusedVariables false
set_option linter.unusedSimpArgs false
def spec_l07Prop.f (a0 : Int) : Option (Int) := if a0 < 0 then (some (wrap64 (-a0))) else (some a0)
set_option maxHeartbeats 8000000 in
set_option maxRecDepth 100000 in
theorem spec_l07Prop.calls (a0 : Int) (r : Int) (w : World) (h : spec_l07Prop.f a0 = some r) :
  Calls Try.prog 141 #[.int .i64 a0] w fun e w' => e = .returned (.int .i64 r) ∧ Drawn0 w w' := by
 have H : (if a0 < 0 then (some (wrap64 (-a0))) else (some a0)) = some r := h
 clear h
 by_cases c2 : a0 < 0
 ·rw [if_pos c2] at H
  have c2b0 : decide (a0 < 0) = true := decide_eq_true c2
  clear c2
  obtain rfl := Option.some.inj H
  go_enter Try.func141, Try.ntmps141
  go_wp2
  go_ret
  exact ⟨by first | rfl | (simp; done) | (simp [*]; done), by repeat (first | exact Drawn0.refl _ | apply Drawn0.step)⟩
 ·rw [if_neg c2] at H
  have c2b0 : decide (a0 < 0) = false := decide_eq_false c2
  clear c2
  obtain rfl := Option.some.inj H
  go_enter Try.func141, Try.ntmps141
  go_wp2
  go_ret
  exact ⟨by first | rfl | (simp; done) | (simp [*]; done), by repeat (first | exact Drawn0.refl _ | apply Drawn0.step)⟩

def spec_LabelOk.l0 : Nat → List Int → List Int → Int → Int → Option (Bool)
 | 0, _, _, _, _ => none
 | k + 1, x0, x5, x6, x7 => if x7 < x6 then (if 0 ≤ x7 then (if x7 < (x5.length : Int) then (if (rd x5 x7) = 0 then (some false) else ((spec_l01In.f (rd x5 x7) (-3) 3).bind fun t174002 => (if t174002 = true then (if x7 > 0 then (if 0 ≤ (wrap64 (x7 - 1)) then (if (wrap64 (x7 - 1)) < (x0.length : Int) then ((spec_l07Prop.f (rd x0 (wrap64 (x7 - 1)))).bind fun t174004 => ((spec_l07Prop.f (rd x5 x7)).bind fun t174005 => (if t174004 ≥ t174005 then (some false) else (spec_LabelOk.l0 k x0 x5 x6 (wrap64 (x7 + 1)))))) else (none)) else (none)) else (spec_LabelOk.l0 k x0 x5 x6 (wrap64 (x7 + 1)))) else (some false)))) else (none)) else (none)) else (some true)
def spec_LabelOk.f (k : Nat) (l0 : List Int) : Option (Bool) := spec_LabelOk.l0 k l0 l0 (l0.length : Int) 0
set_option maxHeartbeats 8000000 in
set_option maxRecDepth 100000 in
theorem spec_LabelOk.calls (k : Nat) (A0 : Option Addr) (c0 : Nat) (l0 : List Int) (r : Bool) (w : World) (hr0 : Kd.C (Kd.int .i64) w A0 l0.length l0) (hc0 : l0.length ≤ c0) (h : spec_LabelOk.f k l0 = some r) :
  Calls Try.prog 174 #[.slice A0 l0.length c0] w fun e w' => e = .returned (.bool r) ∧ Drawn0 w w' := by
 have HR0 := Aside0.mk hr0; have HC0 := Aside0.mk hc0; clear hr0 hc0
 have H : (spec_LabelOk.l0 k l0 l0 (l0.length : Int) 0) = some r := h
 clear h
 have H' := Aside0.mk H
 clear H
 go_enter Try.func174, Try.ntmps174
 go_wp2
 go_loopg [7] k (fun kq v7 w' => ∃ (x7_1 : Int), v7 = .int .i64 x7_1 ∧ Aside0 (spec_LabelOk.l0 kq l0 l0 (l0.length : Int) x7_1 = some r) ∧ Aside0 (kq ≤ k) ∧ Drawn0 w w')
 case atStart => exact ⟨(0), (by first | rfl | (simp; done) | (simp [*]; done)), H', ⟨Nat.le_refl _⟩, by repeat (first | exact Drawn0.refl _ | apply Drawn0.step)⟩
 case round =>
  clear H'
  try clear c1
  obtain ⟨x7_1, rfl, HA, HK1, ⟨m1, rfl⟩⟩ := hrel
  cases gk with
  | zero => exact absurd HA.out (by simp [spec_LabelOk.l0])
  | succ k1 =>
   have H := HA.out
   clear HA
   simp only [spec_LabelOk.l0] at H
   by_cases c2 : x7_1 < (l0.length : Int)
   ·rw [if_pos c2] at H
    have c2b0 : decide (x7_1 < (l0.length : Int)) = true := decide_eq_true c2
    clear c2
    by_cases c3 : 0 ≤ x7_1
    ·rw [if_pos c3] at H
     have c3b0 : decide (0 ≤ x7_1) = true := decide_eq_true c3
     clear c3
     by_cases c4 : x7_1 < (l0.length : Int)
     ·rw [if_pos c4] at H
      have c4b0 : decide (x7_1 < (l0.length : Int)) = true := decide_eq_true c4
      clear c4
      by_cases c5 : (rd l0 x7_1) = 0
      ·rw [if_pos c5] at H
       have c5b0 : ((rd l0 x7_1) == 0) = true := beq_iff_eq.mpr c5
       have c5b1 : ((rd l0 x7_1) != 0) = false := bne_eq_false_iff_eq.mpr c5
       clear c5
       obtain rfl := Option.some.inj H
       have p174001 : 0 ≤ (x7_1 : Int) := of_decide_eq_true (by with_reducible assumption)
       have q174001 : x7_1 < (l0.length : Int) := of_decide_eq_true (by with_reducible assumption)
       obtain ⟨ad174001, e174001, hx174001_0⟩ := Kd.at_int HR0.out x7_1 p174001 q174001
       cases e174001
       replace p174001 := eq_true p174001
       replace q174001 := eq_true q174001
       go_wp2
       go_ret
       exact ⟨by first | rfl | (simp; done) | (simp [*]; done), by repeat (first | exact Drawn0.refl _ | apply Drawn0.step)⟩
      ·rw [if_neg c5] at H
       have c5b0 : ((rd l0 x7_1) == 0) = false := beq_eq_false_iff_ne.mpr c5
       have c5b1 : ((rd l0 x7_1) != 0) = true := bne_iff_ne.mpr c5
       replace H := Option.bind_eq_some_iff.mp H
       obtain ⟨t174002, A60, H⟩ := H
       replace H : (if t174002 = true then (if x7_1 > 0 then (if 0 ≤ (wrap64 (x7_1 - 1)) then (if (wrap64 (x7_1 - 1)) < (l0.length : Int) then ((spec_l07Prop.f (rd l0 (wrap64 (x7_1 - 1)))).bind fun t174004 => ((spec_l07Prop.f (rd l0 x7_1)).bind fun t174005 => (if t174004 ≥ t174005 then (some false) else (spec_LabelOk.l0 k1 l0 l0 (l0.length : Int) (wrap64 (x7_1 + 1)))))) else (none)) else (none)) else (spec_LabelOk.l0 k1 l0 l0 (l0.length : Int) (wrap64 (x7_1 + 1)))) else (some false)) = some r := H
       have A6 := Aside0.mk A60; clear A60
       by_cases c7 : t174002 = true
       ·subst c7
        have H1 : (if x7_1 > 0 then (if 0 ≤ (wrap64 (x7_1 - 1)) then (if (wrap64 (x7_1 - 1)) < (l0.length : Int) then ((spec_l07Prop.f (rd l0 (wrap64 (x7_1 - 1)))).bind fun t174004 => ((spec_l07Prop.f (rd l0 x7_1)).bind fun t174005 => (if t174004 ≥ t174005 then (some false) else (spec_LabelOk.l0 k1 l0 l0 (l0.length : Int) (wrap64 (x7_1 + 1)))))) else (none)) else (none)) else (spec_LabelOk.l0 k1 l0 l0 (l0.length : Int) (wrap64 (x7_1 + 1)))) = some r := by rw [if_pos rfl] at H; exact H
        clear H
        have H := H1
        clear H1
        by_cases c8 : x7_1 > 0
        ·rw [if_pos c8] at H
         have c8b0 : decide (0 < x7_1) = true := decide_eq_true c8
         clear c8
         obtain ⟨ji9, hji9⟩ : ∃ j_ : Int, (wrap64 (x7_1 - 1)) = j_ := ⟨_, rfl⟩
         replace H : (if 0 ≤ (ji9) then (if (ji9) < (l0.length : Int) then ((spec_l07Prop.f (rd l0 (ji9))).bind fun t174004 => ((spec_l07Prop.f (rd l0 x7_1)).bind fun t174005 => (if t174004 ≥ t174005 then (some false) else (spec_LabelOk.l0 k1 l0 l0 (l0.length : Int) (wrap64 (x7_1 + 1)))))) else (none)) else (none)) = some r := by first | (rw [hji9] at H; exact H) | (simp only [hji9] at H ⊢; exact H)
         (try rw [hji9] at A6)
         have hji9w : (IntKind.i64.wrap (x7_1 - 1)) = ji9 := (i64_w _).trans hji9
         by_cases c10 : 0 ≤ (ji9)
         ·rw [if_pos c10] at H
          have c10b0 : decide (0 ≤ (ji9)) = true := decide_eq_true c10
          clear c10
          by_cases c11 : (ji9) < (l0.length : Int)
          ·rw [if_pos c11] at H
           have c11b0 : decide ((ji9) < (l0.length : Int)) = true := decide_eq_true c11
           clear c11
           replace H := Option.bind_eq_some_iff.mp H
           obtain ⟨t174004, A120, H⟩ := H
           replace H : ((spec_l07Prop.f (rd l0 x7_1)).bind fun t174005 => (if t174004 ≥ t174005 then (some false) else (spec_LabelOk.l0 k1 l0 l0 (l0.length : Int) (wrap64 (x7_1 + 1))))) = some r := H
           have A12 := Aside0.mk A120; clear A120
           replace H := Option.bind_eq_some_iff.mp H
           obtain ⟨t174005, A130, H⟩ := H
           replace H : (if t174004 ≥ t174005 then (some false) else (spec_LabelOk.l0 k1 l0 l0 (l0.length : Int) (wrap64 (x7_1 + 1)))) = some r := H
           have A13 := Aside0.mk A130; clear A130
           by_cases c14 : t174004 ≥ t174005
           ·rw [if_pos c14] at H
            have c14b0 : decide (t174005 ≤ t174004) = true := decide_eq_true c14
            clear c14
            obtain rfl := Option.some.inj H
            have p174001 : 0 ≤ (x7_1 : Int) := of_decide_eq_true (by with_reducible assumption)
            have q174001 : x7_1 < (l0.length : Int) := of_decide_eq_true (by with_reducible assumption)
            obtain ⟨ad174001, e174001, hx174001_0⟩ := Kd.at_int HR0.out x7_1 p174001 q174001
            cases e174001
            replace p174001 := eq_true p174001
            replace q174001 := eq_true q174001
            go_wp2_with (first | (go_at_call 68; (with_reducible refine (spec_l01In.calls (rd l0 x7_1) (-3) 3 true _ A6.out).mono ?_); rintro e w' ⟨rfl, ⟨nd, rfl⟩⟩; have p174003 : 0 ≤ ((ji9) : Int) := of_decide_eq_true (by with_reducible assumption); have q174003 : (ji9) < (l0.length : Int) := of_decide_eq_true (by with_reducible assumption); obtain ⟨ad174003, e174003, hx174003_0⟩ := Kd.at_int HR0.out (ji9) p174003 q174003; obtain rfl : ad174001 = ad174003 := (by injection e174003); replace p174003 := eq_true p174003; replace q174003 := eq_true q174003) | (go_at_call 141; (with_reducible refine (spec_l07Prop.calls (rd l0 (ji9)) t174004 _ A12.out).mono ?_); rintro e w' ⟨rfl, ⟨nd, rfl⟩⟩) | (go_at_call 141; (with_reducible refine (spec_l07Prop.calls (rd l0 x7_1) t174005 _ A13.out).mono ?_); rintro e w' ⟨rfl, ⟨nd, rfl⟩⟩))
            go_ret
            exact ⟨by first | rfl | (simp; done) | (simp only [← hji9] <;> (first | rfl | simp)) | (simp [*]; done), by repeat (first | exact Drawn0.refl _ | apply Drawn0.step)⟩
           ·rw [if_neg c14] at H
            have c14b0 : decide (t174005 ≤ t174004) = false := decide_eq_false c14
            clear c14
            have H' := Aside0.mk H
            clear H
            have p174001 : 0 ≤ (x7_1 : Int) := of_decide_eq_true (by with_reducible assumption)
            have q174001 : x7_1 < (l0.length : Int) := of_decide_eq_true (by with_reducible assumption)
            obtain ⟨ad174001, e174001, hx174001_0⟩ := Kd.at_int HR0.out x7_1 p174001 q174001
            cases e174001
            replace p174001 := eq_true p174001
            replace q174001 := eq_true q174001
            go_wp2_with (first | (go_at_call 68; (with_reducible refine (spec_l01In.calls (rd l0 x7_1) (-3) 3 true _ A6.out).mono ?_); rintro e w' ⟨rfl, ⟨nd, rfl⟩⟩; have p174003 : 0 ≤ ((ji9) : Int) := of_decide_eq_true (by with_reducible assumption); have q174003 : (ji9) < (l0.length : Int) := of_decide_eq_true (by with_reducible assumption); obtain ⟨ad174003, e174003, hx174003_0⟩ := Kd.at_int HR0.out (ji9) p174003 q174003; obtain rfl : ad174001 = ad174003 := (by injection e174003); replace p174003 := eq_true p174003; replace q174003 := eq_true q174003) | (go_at_call 141; (with_reducible refine (spec_l07Prop.calls (rd l0 (ji9)) t174004 _ A12.out).mono ?_); rintro e w' ⟨rfl, ⟨nd, rfl⟩⟩) | (go_at_call 141; (with_reducible refine (spec_l07Prop.calls (rd l0 x7_1) t174005 _ A13.out).mono ?_); rintro e w' ⟨rfl, ⟨nd, rfl⟩⟩))
            go_roundg k1
            case measure => have := HK1.out; omega
            case rel => exact ⟨(wrap64 (x7_1 + 1)), (by first | rfl | (simp; done) | (simp [*]; done)), H', ⟨by have := HK1.out; omega⟩, by repeat (first | exact Drawn0.refl _ | apply Drawn0.step)⟩
          ·rw [if_neg c11] at H
           exact absurd H (by simp)
         ·rw [if_neg c10] at H
          exact absurd H (by simp)
        ·rw [if_neg c8] at H
         have c8b0 : decide (0 < x7_1) = false := decide_eq_false c8
         clear c8
         have H' := Aside0.mk H
         clear H
         have p174001 : 0 ≤ (x7_1 : Int) := of_decide_eq_true (by with_reducible assumption)
         have q174001 : x7_1 < (l0.length : Int) := of_decide_eq_true (by with_reducible assumption)
         obtain ⟨ad174001, e174001, hx174001_0⟩ := Kd.at_int HR0.out x7_1 p174001 q174001
         cases e174001
         replace p174001 := eq_true p174001
         replace q174001 := eq_true q174001
         go_wp2_with (first | (go_at_call 68; (with_reducible refine (spec_l01In.calls (rd l0 x7_1) (-3) 3 true _ A6.out).mono ?_); rintro e w' ⟨rfl, ⟨nd, rfl⟩⟩))
         go_roundg k1
         case measure => have := HK1.out; omega
         case rel => exact ⟨(wrap64 (x7_1 + 1)), (by first | rfl | (simp; done) | (simp [*]; done)), H', ⟨by have := HK1.out; omega⟩, by repeat (first | exact Drawn0.refl _ | apply Drawn0.step)⟩
       ·replace c7 := Bool.eq_false_iff.mpr c7
        subst c7
        have H1 : (some false) = some r := by rw [if_neg (show ¬ (false = true) by decide)] at H; exact H
        clear H
        have H := H1
        clear H1
        obtain rfl := Option.some.inj H
        have p174001 : 0 ≤ (x7_1 : Int) := of_decide_eq_true (by with_reducible assumption)
        have q174001 : x7_1 < (l0.length : Int) := of_decide_eq_true (by with_reducible assumption)
        obtain ⟨ad174001, e174001, hx174001_0⟩ := Kd.at_int HR0.out x7_1 p174001 q174001
        cases e174001
        replace p174001 := eq_true p174001
        replace q174001 := eq_true q174001
        go_wp2_with (first | (go_at_call 68; (with_reducible refine (spec_l01In.calls (rd l0 x7_1) (-3) 3 false _ A6.out).mono ?_); rintro e w' ⟨rfl, ⟨nd, rfl⟩⟩))
        go_ret
        exact ⟨by first | rfl | (simp; done) | (simp [*]; done), by repeat (first | exact Drawn0.refl _ | apply Drawn0.step)⟩
     ·rw [if_neg c4] at H
      exact absurd H (by simp)
    ·rw [if_neg c3] at H
     exact absurd H (by simp)
   ·rw [if_neg c2] at H
    have c2b0 : decide (x7_1 < (l0.length : Int)) = false := decide_eq_false c2
    clear c2
    obtain rfl := Option.some.inj H
    go_wp2
    go_ret
    exact ⟨by first | rfl | (simp; done) | (simp [*]; done), by repeat (first | exact Drawn0.refl _ | apply Drawn0.step)⟩

def impl_propOf.f (a0 : Int) : Option (Int) := some (mx a0 (wrap64 (-a0)))
set_option maxHeartbeats 8000000 in
set_option maxRecDepth 100000 in
theorem impl_propOf.calls (a0 : Int) (r : Int) (w : World) (h : impl_propOf.f a0 = some r) :
  Calls Try.prog 162 #[.int .i64 a0] w fun e w' => e = .returned (.int .i64 r) ∧ Below w.heap.size w w' := by
 have HB := Aside0.mk (Below.refl w.heap.size w)
 have H : (some (mx a0 (wrap64 (-a0)))) = some r := h
 clear h
 obtain ⟨ji2, hji2⟩ : ∃ j_ : Int, (mx a0 (wrap64 (-a0))) = j_ := ⟨_, rfl⟩
 replace H : (some ji2) = some r := by first | (rw [hji2] at H; exact H) | (simp only [hji2] at H ⊢; exact H)
 have hji2_ : (if a0 < (wrap64 (-a0)) then (wrap64 (-a0)) else a0) = ji2 := hji2
 obtain rfl := Option.some.inj H
 go_enter Try.func162, Try.ntmps162
 go_wp2
 go_ret
 exact ⟨by first | rfl | (simp [errW_none, errW_some] <;> rfl) | (simp only [← hji2]; first | rfl | (simp [errW_none, errW_some] <;> rfl)) | (simp [*, errW_none, errW_some] <;> rfl), by repeat (first | (with_reducible first | exact HB.out | apply below_alloc | apply pw_below_drewN | apply below_drew1) | exact HB.out)⟩

def impl_LabelOk.l0 : Nat → List Int → List Int → Int → Int → Option (Bool)
 | 0, _, _, _, _ => none
 | k + 1, x0, x5, x6, x7 => if x7 < x6 then (if 0 ≤ x7 then (if x7 < (x5.length : Int) then (if (rd x5 x7) = 0 then (some false) else (if (rd x5 x7) < (-3) then (some false) else (if (rd x5 x7) > 3 then (some false) else (if x7 > 0 then (if 0 ≤ (wrap64 (x7 - 1)) then (if (wrap64 (x7 - 1)) < (x0.length : Int) then ((impl_propOf.f (rd x0 (wrap64 (x7 - 1)))).bind fun t168003 => ((impl_propOf.f (rd x5 x7)).bind fun t168004 => (if t168003 ≥ t168004 then (some false) else (impl_LabelOk.l0 k x0 x5 x6 (wrap64 (x7 + 1)))))) else (none)) else (none)) else (impl_LabelOk.l0 k x0 x5 x6 (wrap64 (x7 + 1))))))) else (none)) else (none)) else (some true)
def impl_LabelOk.f (k : Nat) (l0 : List Int) : Option (Bool) := impl_LabelOk.l0 k l0 l0 (l0.length : Int) 0
set_option maxHeartbeats 8000000 in
set_option maxRecDepth 100000 in
theorem impl_LabelOk.calls (k : Nat) (A0 : Option Addr) (c0 : Nat) (l0 : List Int) (r : Bool) (w : World) (hr0 : Kd.C (Kd.int .i64) w A0 l0.length l0) (hc0 : l0.length ≤ c0) (h : impl_LabelOk.f k l0 = some r) :
  Calls Try.prog 168 #[.slice A0 l0.length c0] w fun e w' => e = .returned (.bool r) ∧ Below w.heap.size w w' := by
 have HR0 := Aside0.mk hr0; have HC0 := Aside0.mk hc0; clear hr0 hc0
 have HB := Aside0.mk (Below.refl w.heap.size w)
 have H : (impl_LabelOk.l0 k l0 l0 (l0.length : Int) 0) = some r := h
 clear h
 have H' := Aside0.mk H
 clear H
 go_enter Try.func168, Try.ntmps168
 go_wp2
 go_loopg [7] k (fun kq v7 w' => ∃ (x7_1 : Int), v7 = .int .i64 x7_1 ∧ Aside0 (impl_LabelOk.l0 kq l0 l0 (l0.length : Int) x7_1 = some r) ∧ Aside0 (kq ≤ k) ∧ Aside0 (Below w.heap.size w w'))
 case atStart => exact ⟨(0), (by first | rfl | (simp; done) | (simp [*]; done)), H', ⟨Nat.le_refl _⟩, ⟨by repeat (first | (with_reducible first | exact HB.out | apply below_alloc | apply pw_below_drewN | apply below_drew1) | exact HB.out)⟩⟩
 case round =>
  clear H'
  try clear c1
  obtain ⟨x7_1, rfl, HA, HK1, HB⟩ := hrel
  cases gk with
  | zero => exact absurd HA.out (by simp [impl_LabelOk.l0])
  | succ k1 =>
   have H := HA.out
   clear HA
   simp only [impl_LabelOk.l0] at H
   by_cases c2 : x7_1 < (l0.length : Int)
   ·rw [if_pos c2] at H
    have c2b0 : decide (x7_1 < (l0.length : Int)) = true := decide_eq_true c2
    clear c2
    by_cases c3 : 0 ≤ x7_1
    ·rw [if_pos c3] at H
     have c3b0 : decide (0 ≤ x7_1) = true := decide_eq_true c3
     clear c3
     by_cases c4 : x7_1 < (l0.length : Int)
     ·rw [if_pos c4] at H
      have c4b0 : decide (x7_1 < (l0.length : Int)) = true := decide_eq_true c4
      clear c4
      by_cases c5 : (rd l0 x7_1) = 0
      ·rw [if_pos c5] at H
       have c5b0 : ((rd l0 x7_1) == 0) = true := beq_iff_eq.mpr c5
       have c5b1 : ((rd l0 x7_1) != 0) = false := bne_eq_false_iff_eq.mpr c5
       clear c5
       obtain rfl := Option.some.inj H
       have p168001 : 0 ≤ (x7_1 : Int) := of_decide_eq_true (by with_reducible assumption)
       have q168001 : x7_1 < (l0.length : Int) := of_decide_eq_true (by with_reducible assumption)
       obtain ⟨ad168001, e168001, hx168001_0⟩ := Kd.at_int HR0.out x7_1 p168001 q168001
       cases e168001
       replace hx168001_0 := (HB.out.cell (World.block_lt_of_cell? w _ hx168001_0)).trans hx168001_0
       replace p168001 := eq_true p168001
       replace q168001 := eq_true q168001
       go_wp2
       go_ret
       exact ⟨by first | rfl | (simp [errW_none, errW_some] <;> rfl) | (simp [*, errW_none, errW_some] <;> rfl), by repeat (first | (with_reducible first | exact HB.out | apply below_alloc | apply pw_below_drewN | apply below_drew1) | exact HB.out)⟩
      ·rw [if_neg c5] at H
       have c5b0 : ((rd l0 x7_1) == 0) = false := beq_eq_false_iff_ne.mpr c5
       have c5b1 : ((rd l0 x7_1) != 0) = true := bne_iff_ne.mpr c5
       by_cases c6 : (rd l0 x7_1) < (-3)
       ·rw [if_pos c6] at H
        have c6b0 : decide ((rd l0 x7_1) < (-3)) = true := decide_eq_true c6
        clear c6
        obtain rfl := Option.some.inj H
        have p168001 : 0 ≤ (x7_1 : Int) := of_decide_eq_true (by with_reducible assumption)
        have q168001 : x7_1 < (l0.length : Int) := of_decide_eq_true (by with_reducible assumption)
        obtain ⟨ad168001, e168001, hx168001_0⟩ := Kd.at_int HR0.out x7_1 p168001 q168001
        cases e168001
        replace hx168001_0 := (HB.out.cell (World.block_lt_of_cell? w _ hx168001_0)).trans hx168001_0
        replace p168001 := eq_true p168001
        replace q168001 := eq_true q168001
        go_wp2
        go_ret
        exact ⟨by first | rfl | (simp [errW_none, errW_some] <;> rfl) | (simp [*, errW_none, errW_some] <;> rfl), by repeat (first | (with_reducible first | exact HB.out | apply below_alloc | apply pw_below_drewN | apply below_drew1) | exact HB.out)⟩
       ·rw [if_neg c6] at H
        have c6b0 : decide ((rd l0 x7_1) < (-3)) = false := decide_eq_false c6
        clear c6
        by_cases c7 : (rd l0 x7_1) > 3
        ·rw [if_pos c7] at H
         have c7b0 : decide (3 < (rd l0 x7_1)) = true := decide_eq_true c7
         clear c7
         obtain rfl := Option.some.inj H
         have p168001 : 0 ≤ (x7_1 : Int) := of_decide_eq_true (by with_reducible assumption)
         have q168001 : x7_1 < (l0.length : Int) := of_decide_eq_true (by with_reducible assumption)
         obtain ⟨ad168001, e168001, hx168001_0⟩ := Kd.at_int HR0.out x7_1 p168001 q168001
         cases e168001
         replace hx168001_0 := (HB.out.cell (World.block_lt_of_cell? w _ hx168001_0)).trans hx168001_0
         replace p168001 := eq_true p168001
         replace q168001 := eq_true q168001
         go_wp2
         go_ret
         exact ⟨by first | rfl | (simp [errW_none, errW_some] <;> rfl) | (simp [*, errW_none, errW_some] <;> rfl), by repeat (first | (with_reducible first | exact HB.out | apply below_alloc | apply pw_below_drewN | apply below_drew1) | exact HB.out)⟩
        ·rw [if_neg c7] at H
         have c7b0 : decide (3 < (rd l0 x7_1)) = false := decide_eq_false c7
         clear c7
         by_cases c8 : x7_1 > 0
         ·rw [if_pos c8] at H
          have c8b0 : decide (0 < x7_1) = true := decide_eq_true c8
          clear c8
          obtain ⟨ji9, hji9⟩ : ∃ j_ : Int, (wrap64 (x7_1 - 1)) = j_ := ⟨_, rfl⟩
          replace H : (if 0 ≤ (ji9) then (if (ji9) < (l0.length : Int) then ((impl_propOf.f (rd l0 (ji9))).bind fun t168003 => ((impl_propOf.f (rd l0 x7_1)).bind fun t168004 => (if t168003 ≥ t168004 then (some false) else (impl_LabelOk.l0 k1 l0 l0 (l0.length : Int) (wrap64 (x7_1 + 1)))))) else (none)) else (none)) = some r := by first | (rw [hji9] at H; exact H) | (simp only [hji9] at H ⊢; exact H)
          have hji9w : (IntKind.i64.wrap (x7_1 - 1)) = ji9 := (i64_w _).trans hji9
          by_cases c10 : 0 ≤ (ji9)
          ·rw [if_pos c10] at H
           have c10b0 : decide (0 ≤ (ji9)) = true := decide_eq_true c10
           clear c10
           by_cases c11 : (ji9) < (l0.length : Int)
           ·rw [if_pos c11] at H
            have c11b0 : decide ((ji9) < (l0.length : Int)) = true := decide_eq_true c11
            clear c11
            replace H := Option.bind_eq_some_iff.mp H
            obtain ⟨t168003, A120, H⟩ := H
            replace H : ((impl_propOf.f (rd l0 x7_1)).bind fun t168004 => (if t168003 ≥ t168004 then (some false) else (impl_LabelOk.l0 k1 l0 l0 (l0.length : Int) (wrap64 (x7_1 + 1))))) = some r := H
            have A12 := Aside0.mk A120; clear A120
            replace H := Option.bind_eq_some_iff.mp H
            obtain ⟨t168004, A130, H⟩ := H
            replace H : (if t168003 ≥ t168004 then (some false) else (impl_LabelOk.l0 k1 l0 l0 (l0.length : Int) (wrap64 (x7_1 + 1)))) = some r := H
            have A13 := Aside0.mk A130; clear A130
            by_cases c14 : t168003 ≥ t168004
            ·rw [if_pos c14] at H
             have c14b0 : decide (t168004 ≤ t168003) = true := decide_eq_true c14
             clear c14
             obtain rfl := Option.some.inj H
             have p168001 : 0 ≤ (x7_1 : Int) := of_decide_eq_true (by with_reducible assumption)
             have q168001 : x7_1 < (l0.length : Int) := of_decide_eq_true (by with_reducible assumption)
             obtain ⟨ad168001, e168001, hx168001_0⟩ := Kd.at_int HR0.out x7_1 p168001 q168001
             cases e168001
             replace hx168001_0 := (HB.out.cell (World.block_lt_of_cell? w _ hx168001_0)).trans hx168001_0
             replace p168001 := eq_true p168001
             replace q168001 := eq_true q168001
             have p168002 : 0 ≤ ((ji9) : Int) := of_decide_eq_true (by with_reducible assumption)
             have q168002 : (ji9) < (l0.length : Int) := of_decide_eq_true (by with_reducible assumption)
             obtain ⟨ad168002, e168002, hx168002_0⟩ := Kd.at_int HR0.out (ji9) p168002 q168002
             obtain rfl : ad168001 = ad168002 := (by injection e168002)
             replace hx168002_0 := (HB.out.cell (World.block_lt_of_cell? w _ hx168002_0)).trans hx168002_0
             replace p168002 := eq_true p168002
             replace q168002 := eq_true q168002
             go_wp2_with (first | (go_at_call 162; (with_reducible refine (impl_propOf.calls (rd l0 (ji9)) t168003 _ A12.out).mono ?_); rintro e w15 ⟨rfl, hb⟩; have n0_ := Aside0.mk (below_step (by exact HB.out) hb); clear HB; have HB := n0_; clear n0_; (try clear hb); (try clear hb2); (try clear hk); (try clear hi)) | (go_at_call 162; (with_reducible refine (impl_propOf.calls (rd l0 x7_1) t168004 _ A13.out).mono ?_); rintro e w16 ⟨rfl, hb⟩; have n0_ := Aside0.mk (below_step (by exact HB.out) hb); clear HB; have HB := n0_; clear n0_; (try clear hb); (try clear hb2); (try clear hk); (try clear hi)))
             go_ret
             exact ⟨by first | rfl | (simp [errW_none, errW_some] <;> rfl) | (simp only [← hji9]; first | rfl | (simp [errW_none, errW_some] <;> rfl)) | (simp [*, errW_none, errW_some] <;> rfl), by repeat (first | (with_reducible first | exact HB.out | apply below_alloc | apply pw_below_drewN | apply below_drew1) | exact HB.out)⟩
            ·rw [if_neg c14] at H
             have c14b0 : decide (t168004 ≤ t168003) = false := decide_eq_false c14
             clear c14
             have H' := Aside0.mk H
             clear H
             have p168001 : 0 ≤ (x7_1 : Int) := of_decide_eq_true (by with_reducible assumption)
             have q168001 : x7_1 < (l0.length : Int) := of_decide_eq_true (by with_reducible assumption)
             obtain ⟨ad168001, e168001, hx168001_0⟩ := Kd.at_int HR0.out x7_1 p168001 q168001
             cases e168001
             replace hx168001_0 := (HB.out.cell (World.block_lt_of_cell? w _ hx168001_0)).trans hx168001_0
             replace p168001 := eq_true p168001
             replace q168001 := eq_true q168001
             have p168002 : 0 ≤ ((ji9) : Int) := of_decide_eq_true (by with_reducible assumption)
             have q168002 : (ji9) < (l0.length : Int) := of_decide_eq_true (by with_reducible assumption)
             obtain ⟨ad168002, e168002, hx168002_0⟩ := Kd.at_int HR0.out (ji9) p168002 q168002
             obtain rfl : ad168001 = ad168002 := (by injection e168002)
             replace hx168002_0 := (HB.out.cell (World.block_lt_of_cell? w _ hx168002_0)).trans hx168002_0
             replace p168002 := eq_true p168002
             replace q168002 := eq_true q168002
             go_wp2_with (first | (go_at_call 162; (with_reducible refine (impl_propOf.calls (rd l0 (ji9)) t168003 _ A12.out).mono ?_); rintro e w17 ⟨rfl, hb⟩; have n0_ := Aside0.mk (below_step (by exact HB.out) hb); clear HB; have HB := n0_; clear n0_; (try clear hb); (try clear hb2); (try clear hk); (try clear hi)) | (go_at_call 162; (with_reducible refine (impl_propOf.calls (rd l0 x7_1) t168004 _ A13.out).mono ?_); rintro e w18 ⟨rfl, hb⟩; have n0_ := Aside0.mk (below_step (by exact HB.out) hb); clear HB; have HB := n0_; clear n0_; (try clear hb); (try clear hb2); (try clear hk); (try clear hi)))
             go_roundg k1
             case measure => have := HK1.out; omega
             case rel => exact ⟨(wrap64 (x7_1 + 1)), (by first | rfl | (simp; done) | (simp [*]; done)), H', ⟨by have := HK1.out; omega⟩, ⟨by repeat (first | (with_reducible first | exact HB.out | apply below_alloc | apply pw_below_drewN | apply below_drew1) | exact HB.out)⟩⟩
           ·rw [if_neg c11] at H
            exact absurd H (by simp)
          ·rw [if_neg c10] at H
           exact absurd H (by simp)
         ·rw [if_neg c8] at H
          have c8b0 : decide (0 < x7_1) = false := decide_eq_false c8
          clear c8
          have H' := Aside0.mk H
          clear H
          have p168001 : 0 ≤ (x7_1 : Int) := of_decide_eq_true (by with_reducible assumption)
          have q168001 : x7_1 < (l0.length : Int) := of_decide_eq_true (by with_reducible assumption)
          obtain ⟨ad168001, e168001, hx168001_0⟩ := Kd.at_int HR0.out x7_1 p168001 q168001
          cases e168001
          replace hx168001_0 := (HB.out.cell (World.block_lt_of_cell? w _ hx168001_0)).trans hx168001_0
          replace p168001 := eq_true p168001
          replace q168001 := eq_true q168001
          go_wp2
          go_roundg k1
          case measure => have := HK1.out; omega
          case rel => exact ⟨(wrap64 (x7_1 + 1)), (by first | rfl | (simp; done) | (simp [*]; done)), H', ⟨by have := HK1.out; omega⟩, ⟨by repeat (first | (with_reducible first | exact HB.out | apply below_alloc | apply pw_below_drewN | apply below_drew1) | exact HB.out)⟩⟩
     ·rw [if_neg c4] at H
      exact absurd H (by simp)
    ·rw [if_neg c3] at H
     exact absurd H (by simp)
   ·rw [if_neg c2] at H
    have c2b0 : decide (x7_1 < (l0.length : Int)) = false := decide_eq_false c2
    clear c2
    obtain rfl := Option.some.inj H
    go_wp2
    go_ret
    exact ⟨by first | rfl | (simp [errW_none, errW_some] <;> rfl) | (simp [*, errW_none, errW_some] <;> rfl), by repeat (first | (with_reducible first | exact HB.out | apply below_alloc | apply pw_below_drewN | apply below_drew1) | exact HB.out)⟩

end Go.Proofs.Ytodfnelilhjoeaa.Pr
namespace Go.Proofs.Ytodfnelilhjoeaa.Pr
open Go.RowKit Go.Proofs.YtodfnelilhjoeaaW.PrintWords Go.Proofs.YtodfnelilhjoeaaW.PrintMore Go.Proofs.Ytodfnelilhjoeaa.Ni
theorem l07Prop_f {x : Int} (h : litOk x = true) : spec_l07Prop.f x = some (prp x) := by
 have := (litOk_iff x).1 h
 unfold spec_l07Prop.f prp
 split
 ·rw [wrap_id (by omega) (by omega)]
 ·rfl
theorem propOf_f {x : Int} (h : litOk x = true) : impl_propOf.f x = some (prp x) := by
 have := (litOk_iff x).1 h
 unfold impl_propOf.f prp mx
 rw [wrap_id (by omega) (by omega)]
 congr 1
 split <;> split <;> omega
theorem spec_LabelOk_f (l : List Int) (hl : l.length ≤ 9223372036854775807) (k : Nat) (hk : 2 ^ 64 ≤ k) : spec_LabelOk.f k l = some (labB l) := by
 have key := loop_up l.length (fun k i => (0 < i → litOk (l.getD (i - 1) 0) = true) → spec_LabelOk.l0 k l l l.length (i : Int) = some (labFrom (if i = 0 then 0 else prp (l.getD (i - 1) 0)) (l.drop i))) 0
  (fun k _ _ => by simp [spec_LabelOk.l0, labFrom])
  (fun k i _ hi ih hb => by
   simp only [spec_LabelOk.l0]
   rw [if_pos (by omega), if_pos (by omega), if_pos (by omega), rd_nat, wrap_nat hi (by omega), drop_cons hi 0]
   unfold labFrom
   have ih' := fun h => ih (fun _ => h)
   simp only [Nat.add_sub_cancel, Nat.add_eq_zero_iff, Nat.one_ne_zero, and_false, if_false] at ih'
   by_cases h0 : l.getD i 0 = 0
   ·rw [if_pos h0, h0]; simp [litOk]
   rw [if_neg h0]
   unfold spec_l01In.f
   by_cases h1 : l.getD i 0 ≥ -3
   ·rw [if_pos h1, Option.bind_some]
    by_cases h2 : l.getD i 0 ≤ 3
    ·have hok : litOk (l.getD i 0) = true := (litOk_iff _).2 ⟨h0, h1, h2⟩
     have hp := prp_pos hok
     rw [if_pos (by simpa using h2)]
     by_cases hi0 : i = 0
     ·subst hi0
      rw [if_neg (by omega), ih' hok, hok]
      simp only [Bool.true_and, if_true]
      rw [decide_eq_true (show (0 : Int) < prp (l.getD 0 0) by omega)]
      rfl
     ·rw [if_pos (by omega), wrap_pred (by omega) (by omega), if_pos (by omega), if_pos (by omega), rd_nat, l07Prop_f (hb (by omega)), Option.bind_some, l07Prop_f hok, Option.bind_some, if_neg hi0, hok]
      by_cases hlt : prp (l.getD (i - 1) 0) < prp (l.getD i 0)
      ·rw [if_neg (by omega), ih' hok, decide_eq_true hlt]; rfl
      ·rw [if_pos (by omega), decide_eq_false hlt]; rfl
    ·rw [if_neg (by simpa using h2)]
     rw [show litOk (l.getD i 0) = false from Bool.eq_false_iff.2 fun h => by have := (litOk_iff _).1 h; omega]; rfl
   ·rw [if_neg h1, Option.bind_some, if_neg (by decide)]
    rw [show litOk (l.getD i 0) = false from Bool.eq_false_iff.2 fun h => by have := (litOk_iff _).1 h; omega]; rfl) 0 k (Nat.zero_le _) (by omega)
 unfold spec_LabelOk.f labB
 have := key (fun h => absurd h (by omega))
 simpa using this
theorem impl_LabelOk_f (l : List Int) (hl : l.length ≤ 9223372036854775807) (k : Nat) (hk : 2 ^ 64 ≤ k) : impl_LabelOk.f k l = some (labB l) := by
 have key := loop_up l.length (fun k i => (0 < i → litOk (l.getD (i - 1) 0) = true) → impl_LabelOk.l0 k l l l.length (i : Int) = some (labFrom (if i = 0 then 0 else prp (l.getD (i - 1) 0)) (l.drop i))) 0
  (fun k _ _ => by simp [impl_LabelOk.l0, labFrom])
  (fun k i _ hi ih hb => by
   simp only [impl_LabelOk.l0]
   rw [if_pos (by omega), if_pos (by omega), if_pos (by omega), rd_nat, wrap_nat hi (by omega), drop_cons hi 0]
   unfold labFrom
   have ih' := fun h => ih (fun _ => h)
   simp only [Nat.add_sub_cancel, Nat.add_eq_zero_iff, Nat.one_ne_zero, and_false, if_false] at ih'
   by_cases h0 : l.getD i 0 = 0
   ·rw [if_pos h0, h0]; simp [litOk]
   rw [if_neg h0]
   by_cases h1 : l.getD i 0 ≥ -3
   ·rw [if_neg (by omega)]
    by_cases h2 : l.getD i 0 ≤ 3
    ·have hok : litOk (l.getD i 0) = true := (litOk_iff _).2 ⟨h0, h1, h2⟩
     have hp := prp_pos hok
     rw [if_neg (by omega)]
     by_cases hi0 : i = 0
     ·subst hi0
      rw [if_neg (by omega), ih' hok, hok]
      simp only [Bool.true_and, if_true]
      rw [decide_eq_true (show (0 : Int) < prp (l.getD 0 0) by omega)]
      rfl
     ·rw [if_pos (by omega), wrap_pred (by omega) (by omega), if_pos (by omega), if_pos (by omega), rd_nat, propOf_f (hb (by omega)), Option.bind_some, propOf_f hok, Option.bind_some, if_neg hi0, hok]
      by_cases hlt : prp (l.getD (i - 1) 0) < prp (l.getD i 0)
      ·rw [if_neg (by omega), ih' hok, decide_eq_true hlt]; rfl
      ·rw [if_pos (by omega), decide_eq_false hlt]; rfl
    ·rw [if_pos (by omega)]
     rw [show litOk (l.getD i 0) = false from Bool.eq_false_iff.2 fun h => by have := (litOk_iff _).1 h; omega]; rfl
   ·rw [if_pos (by omega)]
    rw [show litOk (l.getD i 0) = false from Bool.eq_false_iff.2 fun h => by have := (litOk_iff _).1 h; omega]; rfl) 0 k (Nat.zero_le _) (by omega)
 unfold impl_LabelOk.f labB
 have := key (fun h => absurd h (by omega))
 simpa using this
end Go.Proofs.Ytodfnelilhjoeaa.Pr
namespace Go.Proofs.Ytodfnelilhjoeaa.Pr
open Go.RowKit Go.Proofs.YtodfnelilhjoeaaW.PrintWords Go.Proofs.YtodfnelilhjoeaaW.PrintLast Go.Proofs.YtodfnelilhjoeaaW.PrintMore
attribute [local go_sem] max2_int min2_int max_two min_two max_three min_three max_four min_four
set_option linter.unusedVariables false
set_option linter.unusedSimpArgs false
def spec_NodeOk.f (k : Nat) (a0_0 : ByteArray) (l0_1 : List Int) (a0_2 : Int) : Option (Bool) := (spec_IsName.f k a0_0).bind fun t153002 => (if t153002 = true then ((spec_LabelOk.f k l0_1).bind fun t153003 => (if t153003 = true then ((spec_l01In.f a0_2 0 3).bind fun t153004 => (some t153004)) else (some false))) else (some false))
set_option maxHeartbeats 8000000 in
set_option maxRecDepth 100000 in
theorem spec_NodeOk.calls (k : Nat) (a0_0 : ByteArray) (A0_1 : Option Addr) (c0_1 : Nat) (l0_1 : List Int) (a0_2 : Int) (r : Bool) (w : World) (hr0_1 : Kd.C (Kd.int .i64) w A0_1 l0_1.length l0_1) (hc0_1 : l0_1.length ≤ c0_1) (h : spec_NodeOk.f k a0_0 l0_1 a0_2 = some r) :
  Calls Try.prog 153 #[.agg #[.string a0_0, .slice A0_1 l0_1.length c0_1, .int .i64 a0_2]] w fun e w' => e = .returned (.bool r) ∧ Below w.heap.size w w' := by
 have hu116 := Try.underlying116
 have HR0_1 := Aside0.mk hr0_1; have HC0_1 := Aside0.mk hc0_1; clear hr0_1 hc0_1
 have HB := Aside0.mk (Below.refl w.heap.size w)
 have H : ((spec_IsName.f k a0_0).bind fun t153002 => (if t153002 = true then ((spec_LabelOk.f k l0_1).bind fun t153003 => (if t153003 = true then ((spec_l01In.f a0_2 0 3).bind fun t153004 => (some t153004)) else (some false))) else (some false))) = some r := h
 clear h
 replace H := Option.bind_eq_some_iff.mp H
 obtain ⟨t153002, A20, H⟩ := H
 replace H : (if t153002 = true then ((spec_LabelOk.f k l0_1).bind fun t153003 => (if t153003 = true then ((spec_l01In.f a0_2 0 3).bind fun t153004 => (some t153004)) else (some false))) else (some false)) = some r := H
 have A2 := Aside0.mk A20; clear A20
 by_cases c3 : t153002 = true
 ·subst c3
  have H1 : ((spec_LabelOk.f k l0_1).bind fun t153003 => (if t153003 = true then ((spec_l01In.f a0_2 0 3).bind fun t153004 => (some t153004)) else (some false))) = some r := by rw [if_pos rfl] at H; exact H
  clear H
  have H := H1
  clear H1
  replace H := Option.bind_eq_some_iff.mp H
  obtain ⟨t153003, A40, H⟩ := H
  replace H : (if t153003 = true then ((spec_l01In.f a0_2 0 3).bind fun t153004 => (some t153004)) else (some false)) = some r := H
  have A4 := Aside0.mk A40; clear A40
  by_cases c5 : t153003 = true
  ·subst c5
   have H1 : ((spec_l01In.f a0_2 0 3).bind fun t153004 => (some t153004)) = some r := by rw [if_pos rfl] at H; exact H
   clear H
   have H := H1
   clear H1
   replace H := Option.bind_eq_some_iff.mp H
   obtain ⟨t153004, A60, H⟩ := H
   replace H : (some t153004) = some r := H
   have A6 := Aside0.mk A60; clear A60
   obtain rfl := Option.some.inj H
   go_enter Try.func153, Try.ntmps153
   go_wp2_with (first | ((with_reducible refine gate_dst (N := 1) rfl ?_); refine box_event ?hg (N := 1) ?hd (cs := #[.string a0_0, .slice A0_1 l0_1.length c0_1, .int .i64 a0_2]) (t := 116) ?hr ?_; (case hd => rfl); (case hg => rfl); (case hr => first | (go_simp; done) | (go_simp; rfl)); intro gb153001 hg w7 hbox hb; have n0_ := Aside0.mk (below_step (by repeat (first | (with_reducible first | exact HB.out | apply below_alloc | apply pw_below_drewN | apply below_drew1) | exact HB.out)) hb); have n1_ := Aside0.mk (hbox); have n2_ := Aside0.mk ((by rw [hg]; exact (below_size (by repeat (first | (with_reducible first | exact HB.out | apply below_alloc | apply pw_below_drewN | apply below_drew1) | exact HB.out))) : w.heap.size ≤ gb153001)); have n3_ := Aside0.mk ((by rw [hg]; exact (below_size (by repeat (first | (with_reducible first | exact HB.out | apply below_alloc | apply pw_below_drewN | apply below_drew1) | exact HB.out))) : w.heap.size ≤ gb153001)); clear HB; have HB := n0_; have BK153001 := n1_; have GW153001 := n2_; have GE153001 := n3_; clear n0_ n1_ n2_ n3_; clear hb hbox hg; have hcz8_0 : w7.cell? ⟨gb153001, 0, none⟩ = some (.string a0_0) := (blk_cell BK153001.out 0).trans rfl; have hcz8_1 : w7.cell? ⟨gb153001, 1, none⟩ = some (.slice A0_1 l0_1.length c0_1) := (blk_cell BK153001.out 1).trans rfl; have hcz8_2 : w7.cell? ⟨gb153001, 2, none⟩ = some (.int .i64 a0_2) := (blk_cell BK153001.out 2).trans rfl; have hfz8_0 := blk_frozen BK153001.out 0; have hfz8_1 := blk_frozen BK153001.out 1; have hfz8_2 := blk_frozen BK153001.out 2) | ((with_reducible refine gate_callee (f := 173) rfl ?_); refine goesL_ (some 5) rfl rfl Try.func173 (by kernel_rfl) rfl #[.string a0_0] rfl (by (try simp only [List.map_toArray, List.map_cons, List.map_nil]); first | done | rfl | (simp only [List.length_drop, List.length_take]; rfl)) ?_; (with_reducible refine (spec_IsName.calls k a0_0 true _ A2.out).mono ?_); rintro e w' ⟨rfl, ⟨nd, rfl⟩⟩; refine ⟨_, rfl, ?_⟩) | (go_at_call 174; (with_reducible refine (spec_LabelOk.calls k _ _ l0_1 true _ ?side1 ?side2 A4.out).mono ?_); (case side1 => repeat (first | exact (Kd.C_below HR0_1.out (by repeat (first | (with_reducible first | exact HB.out | apply below_alloc | apply pw_below_drewN | apply below_drew1 | refine below_set ?_ GE153001.out) | exact HB.out))) | (with_reducible refine Kd.C_alloc ?_ _) | (with_reducible refine Kd.C_drewN ?_ _) | (with_reducible refine Kd.C_drew ?_))); (case side2 => exact HC0_1.out); rintro e w' ⟨rfl, ⟨nd, rfl⟩⟩) | (go_at_call 68; (with_reducible refine (spec_l01In.calls a0_2 0 3 t153004 _ A6.out).mono ?_); rintro e w' ⟨rfl, ⟨nd, rfl⟩⟩))
   go_ret
   exact ⟨by first | rfl | (simp [errW_none, errW_some] <;> rfl) | (simp [*, errW_none, errW_some] <;> rfl), by repeat (first | (with_reducible first | exact HB.out | apply below_alloc | apply pw_below_drewN | apply below_drew1 | refine below_set ?_ GE153001.out) | exact HB.out)⟩
  ·replace c5 := Bool.eq_false_iff.mpr c5
   subst c5
   have H1 : (some false) = some r := by rw [if_neg (show ¬ (false = true) by decide)] at H; exact H
   clear H
   have H := H1
   clear H1
   obtain rfl := Option.some.inj H
   go_enter Try.func153, Try.ntmps153
   go_wp2_with (first | ((with_reducible refine gate_dst (N := 1) rfl ?_); refine box_event ?hg (N := 1) ?hd (cs := #[.string a0_0, .slice A0_1 l0_1.length c0_1, .int .i64 a0_2]) (t := 116) ?hr ?_; (case hd => rfl); (case hg => rfl); (case hr => first | (go_simp; done) | (go_simp; rfl)); intro gb153001 hg w9 hbox hb; have n0_ := Aside0.mk (below_step (by repeat (first | (with_reducible first | exact HB.out | apply below_alloc | apply pw_below_drewN | apply below_drew1) | exact HB.out)) hb); have n1_ := Aside0.mk (hbox); have n2_ := Aside0.mk ((by rw [hg]; exact (below_size (by repeat (first | (with_reducible first | exact HB.out | apply below_alloc | apply pw_below_drewN | apply below_drew1) | exact HB.out))) : w.heap.size ≤ gb153001)); have n3_ := Aside0.mk ((by rw [hg]; exact (below_size (by repeat (first | (with_reducible first | exact HB.out | apply below_alloc | apply pw_below_drewN | apply below_drew1) | exact HB.out))) : w.heap.size ≤ gb153001)); clear HB; have HB := n0_; have BK153001 := n1_; have GW153001 := n2_; have GE153001 := n3_; clear n0_ n1_ n2_ n3_; clear hb hbox hg; have hcz10_0 : w9.cell? ⟨gb153001, 0, none⟩ = some (.string a0_0) := (blk_cell BK153001.out 0).trans rfl; have hcz10_1 : w9.cell? ⟨gb153001, 1, none⟩ = some (.slice A0_1 l0_1.length c0_1) := (blk_cell BK153001.out 1).trans rfl; have hcz10_2 : w9.cell? ⟨gb153001, 2, none⟩ = some (.int .i64 a0_2) := (blk_cell BK153001.out 2).trans rfl; have hfz10_0 := blk_frozen BK153001.out 0; have hfz10_1 := blk_frozen BK153001.out 1; have hfz10_2 := blk_frozen BK153001.out 2) | ((with_reducible refine gate_callee (f := 173) rfl ?_); refine goesL_ (some 5) rfl rfl Try.func173 (by kernel_rfl) rfl #[.string a0_0] rfl (by (try simp only [List.map_toArray, List.map_cons, List.map_nil]); first | done | rfl | (simp only [List.length_drop, List.length_take]; rfl)) ?_; (with_reducible refine (spec_IsName.calls k a0_0 true _ A2.out).mono ?_); rintro e w' ⟨rfl, ⟨nd, rfl⟩⟩; refine ⟨_, rfl, ?_⟩) | (go_at_call 174; (with_reducible refine (spec_LabelOk.calls k _ _ l0_1 false _ ?side1 ?side2 A4.out).mono ?_); (case side1 => repeat (first | exact (Kd.C_below HR0_1.out (by repeat (first | (with_reducible first | exact HB.out | apply below_alloc | apply pw_below_drewN | apply below_drew1 | refine below_set ?_ GE153001.out) | exact HB.out))) | (with_reducible refine Kd.C_alloc ?_ _) | (with_reducible refine Kd.C_drewN ?_ _) | (with_reducible refine Kd.C_drew ?_))); (case side2 => exact HC0_1.out); rintro e w' ⟨rfl, ⟨nd, rfl⟩⟩))
   go_ret
   exact ⟨by first | rfl | (simp [errW_none, errW_some] <;> rfl) | (simp [*, errW_none, errW_some] <;> rfl), by repeat (first | (with_reducible first | exact HB.out | apply below_alloc | apply pw_below_drewN | apply below_drew1 | refine below_set ?_ GE153001.out) | exact HB.out)⟩
 ·replace c3 := Bool.eq_false_iff.mpr c3
  subst c3
  have H1 : (some false) = some r := by rw [if_neg (show ¬ (false = true) by decide)] at H; exact H
  clear H
  have H := H1
  clear H1
  obtain rfl := Option.some.inj H
  go_enter Try.func153, Try.ntmps153
  go_wp2_with (first | ((with_reducible refine gate_dst (N := 1) rfl ?_); refine box_event ?hg (N := 1) ?hd (cs := #[.string a0_0, .slice A0_1 l0_1.length c0_1, .int .i64 a0_2]) (t := 116) ?hr ?_; (case hd => rfl); (case hg => rfl); (case hr => first | (go_simp; done) | (go_simp; rfl)); intro gb153001 hg w11 hbox hb; have n0_ := Aside0.mk (below_step (by repeat (first | (with_reducible first | exact HB.out | apply below_alloc | apply pw_below_drewN | apply below_drew1) | exact HB.out)) hb); have n1_ := Aside0.mk (hbox); have n2_ := Aside0.mk ((by rw [hg]; exact (below_size (by repeat (first | (with_reducible first | exact HB.out | apply below_alloc | apply pw_below_drewN | apply below_drew1) | exact HB.out))) : w.heap.size ≤ gb153001)); have n3_ := Aside0.mk ((by rw [hg]; exact (below_size (by repeat (first | (with_reducible first | exact HB.out | apply below_alloc | apply pw_below_drewN | apply below_drew1) | exact HB.out))) : w.heap.size ≤ gb153001)); clear HB; have HB := n0_; have BK153001 := n1_; have GW153001 := n2_; have GE153001 := n3_; clear n0_ n1_ n2_ n3_; clear hb hbox hg; have hcz12_0 : w11.cell? ⟨gb153001, 0, none⟩ = some (.string a0_0) := (blk_cell BK153001.out 0).trans rfl; have hcz12_1 : w11.cell? ⟨gb153001, 1, none⟩ = some (.slice A0_1 l0_1.length c0_1) := (blk_cell BK153001.out 1).trans rfl; have hcz12_2 : w11.cell? ⟨gb153001, 2, none⟩ = some (.int .i64 a0_2) := (blk_cell BK153001.out 2).trans rfl; have hfz12_0 := blk_frozen BK153001.out 0; have hfz12_1 := blk_frozen BK153001.out 1; have hfz12_2 := blk_frozen BK153001.out 2) | ((with_reducible refine gate_callee (f := 173) rfl ?_); refine goesL_ (some 5) rfl rfl Try.func173 (by kernel_rfl) rfl #[.string a0_0] rfl (by (try simp only [List.map_toArray, List.map_cons, List.map_nil]); first | done | rfl | (simp only [List.length_drop, List.length_take]; rfl)) ?_; (with_reducible refine (spec_IsName.calls k a0_0 false _ A2.out).mono ?_); rintro e w' ⟨rfl, ⟨nd, rfl⟩⟩; refine ⟨_, rfl, ?_⟩))
  go_ret
  exact ⟨by first | rfl | (simp [errW_none, errW_some] <;> rfl) | (simp [*, errW_none, errW_some] <;> rfl), by repeat (first | (with_reducible first | exact HB.out | apply below_alloc | apply pw_below_drewN | apply below_drew1 | refine below_set ?_ GE153001.out) | exact HB.out)⟩

def impl_NodeOk.f (k : Nat) (a0_0 : ByteArray) (l0_1 : List Int) (a0_2 : Int) : Option (Bool) := (impl_IsName.f k a0_0).bind fun t157002 => (if t157002 = true then ((impl_LabelOk.f k l0_1).bind fun t157003 => (if t157003 = true then (if a0_2 ≥ 0 then (some (decide (a0_2 ≤ 3))) else (some false)) else (some false))) else (some false))
set_option maxHeartbeats 8000000 in
set_option maxRecDepth 100000 in
theorem impl_NodeOk.calls (k : Nat) (a0_0 : ByteArray) (A0_1 : Option Addr) (c0_1 : Nat) (l0_1 : List Int) (a0_2 : Int) (r : Bool) (w : World) (hr0_1 : Kd.C (Kd.int .i64) w A0_1 l0_1.length l0_1) (hc0_1 : l0_1.length ≤ c0_1) (h : impl_NodeOk.f k a0_0 l0_1 a0_2 = some r) :
  Calls Try.prog 157 #[.agg #[.string a0_0, .slice A0_1 l0_1.length c0_1, .int .i64 a0_2]] w fun e w' => e = .returned (.bool r) ∧ Below w.heap.size w w' := by
 have hu116 := Try.underlying116
 have HR0_1 := Aside0.mk hr0_1; have HC0_1 := Aside0.mk hc0_1; clear hr0_1 hc0_1
 have HB := Aside0.mk (Below.refl w.heap.size w)
 have H : ((impl_IsName.f k a0_0).bind fun t157002 => (if t157002 = true then ((impl_LabelOk.f k l0_1).bind fun t157003 => (if t157003 = true then (if a0_2 ≥ 0 then (some (decide (a0_2 ≤ 3))) else (some false)) else (some false))) else (some false))) = some r := h
 clear h
 replace H := Option.bind_eq_some_iff.mp H
 obtain ⟨t157002, A20, H⟩ := H
 replace H : (if t157002 = true then ((impl_LabelOk.f k l0_1).bind fun t157003 => (if t157003 = true then (if a0_2 ≥ 0 then (some (decide (a0_2 ≤ 3))) else (some false)) else (some false))) else (some false)) = some r := H
 have A2 := Aside0.mk A20; clear A20
 by_cases c3 : t157002 = true
 ·subst c3
  have H1 : ((impl_LabelOk.f k l0_1).bind fun t157003 => (if t157003 = true then (if a0_2 ≥ 0 then (some (decide (a0_2 ≤ 3))) else (some false)) else (some false))) = some r := by rw [if_pos rfl] at H; exact H
  clear H
  have H := H1
  clear H1
  replace H := Option.bind_eq_some_iff.mp H
  obtain ⟨t157003, A40, H⟩ := H
  replace H : (if t157003 = true then (if a0_2 ≥ 0 then (some (decide (a0_2 ≤ 3))) else (some false)) else (some false)) = some r := H
  have A4 := Aside0.mk A40; clear A40
  by_cases c5 : t157003 = true
  ·subst c5
   have H1 : (if a0_2 ≥ 0 then (some (decide (a0_2 ≤ 3))) else (some false)) = some r := by rw [if_pos rfl] at H; exact H
   clear H
   have H := H1
   clear H1
   by_cases c6 : a0_2 ≥ 0
   ·rw [if_pos c6] at H
    have c6b0 : decide (0 ≤ a0_2) = true := decide_eq_true c6
    clear c6
    obtain rfl := Option.some.inj H
    go_enter Try.func157, Try.ntmps157
    go_wp2_with (first | ((with_reducible refine gate_dst (N := 1) rfl ?_); refine box_event ?hg (N := 1) ?hd (cs := #[.string a0_0, .slice A0_1 l0_1.length c0_1, .int .i64 a0_2]) (t := 116) ?hr ?_; (case hd => rfl); (case hg => rfl); (case hr => first | (go_simp; done) | (go_simp; rfl)); intro gb157001 hg w7 hbox hb; have n0_ := Aside0.mk (below_step (by exact HB.out) hb); have n1_ := Aside0.mk (hbox); have n2_ := Aside0.mk ((by rw [hg]; exact (below_size (by exact HB.out)) : w.heap.size ≤ gb157001)); have n3_ := n2_; clear HB; have HB := n0_; have BK157001 := n1_; have GW157001 := n2_; have GE157001 := n3_; clear n0_ n1_ n2_ n3_; clear hb hbox hg; have hcz8_0 : w7.cell? ⟨gb157001, 0, none⟩ = some (.string a0_0) := (blk_cell BK157001.out 0).trans rfl; have hcz8_1 : w7.cell? ⟨gb157001, 1, none⟩ = some (.slice A0_1 l0_1.length c0_1) := (blk_cell BK157001.out 1).trans rfl; have hcz8_2 : w7.cell? ⟨gb157001, 2, none⟩ = some (.int .i64 a0_2) := (blk_cell BK157001.out 2).trans rfl) | ((with_reducible refine gate_callee (f := 175) rfl ?_); refine goesL_ (some 5) rfl rfl Try.func175 (by kernel_rfl) rfl #[.string a0_0] rfl (by (try simp only [List.map_toArray, List.map_cons, List.map_nil]); first | done | rfl | (simp only [List.length_drop, List.length_take]; rfl)) ?_; (with_reducible refine (impl_IsName.calls k a0_0 true _ A2.out).mono ?_); rintro e w' ⟨rfl, ⟨nd, rfl⟩⟩; refine ⟨_, rfl, ?_⟩) | (go_at_call 168; (with_reducible refine (impl_LabelOk.calls k _ _ l0_1 true _ ?side1 ?side2 A4.out).mono ?_); (case side1 => exact (Kd.C_below HR0_1.out (by repeat (first | (with_reducible first | exact HB.out | apply below_alloc | apply pw_below_drewN | apply below_drew1 | refine below_set ?_ GE157001.out) | exact HB.out)))); (case side2 => exact HC0_1.out); rintro e w9 ⟨rfl, hb⟩; have n0_ := Aside0.mk (blk_below (by exact BK157001.out) hb); have n1_ := Aside0.mk (below_step (by repeat (first | (with_reducible first | exact HB.out | apply below_alloc | apply pw_below_drewN | apply below_drew1 | refine below_set ?_ GE157001.out) | exact HB.out)) hb); clear BK157001; clear HB; have BK157001 := n0_; have HB := n1_; clear n0_ n1_; (try clear hb); (try clear hb2); (try clear hk); (try clear hi); have hcz10_0 : w9.cell? ⟨gb157001, 0, none⟩ = some (.string a0_0) := (blk_cell BK157001.out 0).trans rfl; have hcz10_1 : w9.cell? ⟨gb157001, 1, none⟩ = some (.slice A0_1 l0_1.length c0_1) := (blk_cell BK157001.out 1).trans rfl; have hcz10_2 : w9.cell? ⟨gb157001, 2, none⟩ = some (.int .i64 a0_2) := (blk_cell BK157001.out 2).trans rfl))
    go_ret
    exact ⟨by first | rfl | (simp [errW_none, errW_some] <;> rfl) | (simp [*, errW_none, errW_some] <;> rfl), by repeat (first | (with_reducible first | exact HB.out | apply below_alloc | apply pw_below_drewN | apply below_drew1 | refine below_set ?_ GE157001.out) | exact HB.out)⟩
   ·rw [if_neg c6] at H
    have c6b0 : decide (0 ≤ a0_2) = false := decide_eq_false c6
    clear c6
    obtain rfl := Option.some.inj H
    go_enter Try.func157, Try.ntmps157
    go_wp2_with (first | ((with_reducible refine gate_dst (N := 1) rfl ?_); refine box_event ?hg (N := 1) ?hd (cs := #[.string a0_0, .slice A0_1 l0_1.length c0_1, .int .i64 a0_2]) (t := 116) ?hr ?_; (case hd => rfl); (case hg => rfl); (case hr => first | (go_simp; done) | (go_simp; rfl)); intro gb157001 hg w11 hbox hb; have n0_ := Aside0.mk (below_step (by exact HB.out) hb); have n1_ := Aside0.mk (hbox); have n2_ := Aside0.mk ((by rw [hg]; exact (below_size (by exact HB.out)) : w.heap.size ≤ gb157001)); have n3_ := n2_; clear HB; have HB := n0_; have BK157001 := n1_; have GW157001 := n2_; have GE157001 := n3_; clear n0_ n1_ n2_ n3_; clear hb hbox hg; have hcz12_0 : w11.cell? ⟨gb157001, 0, none⟩ = some (.string a0_0) := (blk_cell BK157001.out 0).trans rfl; have hcz12_1 : w11.cell? ⟨gb157001, 1, none⟩ = some (.slice A0_1 l0_1.length c0_1) := (blk_cell BK157001.out 1).trans rfl; have hcz12_2 : w11.cell? ⟨gb157001, 2, none⟩ = some (.int .i64 a0_2) := (blk_cell BK157001.out 2).trans rfl) | ((with_reducible refine gate_callee (f := 175) rfl ?_); refine goesL_ (some 5) rfl rfl Try.func175 (by kernel_rfl) rfl #[.string a0_0] rfl (by (try simp only [List.map_toArray, List.map_cons, List.map_nil]); first | done | rfl | (simp only [List.length_drop, List.length_take]; rfl)) ?_; (with_reducible refine (impl_IsName.calls k a0_0 true _ A2.out).mono ?_); rintro e w' ⟨rfl, ⟨nd, rfl⟩⟩; refine ⟨_, rfl, ?_⟩) | (go_at_call 168; (with_reducible refine (impl_LabelOk.calls k _ _ l0_1 true _ ?side1 ?side2 A4.out).mono ?_); (case side1 => exact (Kd.C_below HR0_1.out (by repeat (first | (with_reducible first | exact HB.out | apply below_alloc | apply pw_below_drewN | apply below_drew1 | refine below_set ?_ GE157001.out) | exact HB.out)))); (case side2 => exact HC0_1.out); rintro e w13 ⟨rfl, hb⟩; have n0_ := Aside0.mk (blk_below (by exact BK157001.out) hb); have n1_ := Aside0.mk (below_step (by repeat (first | (with_reducible first | exact HB.out | apply below_alloc | apply pw_below_drewN | apply below_drew1 | refine below_set ?_ GE157001.out) | exact HB.out)) hb); clear BK157001; clear HB; have BK157001 := n0_; have HB := n1_; clear n0_ n1_; (try clear hb); (try clear hb2); (try clear hk); (try clear hi); have hcz14_0 : w13.cell? ⟨gb157001, 0, none⟩ = some (.string a0_0) := (blk_cell BK157001.out 0).trans rfl; have hcz14_1 : w13.cell? ⟨gb157001, 1, none⟩ = some (.slice A0_1 l0_1.length c0_1) := (blk_cell BK157001.out 1).trans rfl; have hcz14_2 : w13.cell? ⟨gb157001, 2, none⟩ = some (.int .i64 a0_2) := (blk_cell BK157001.out 2).trans rfl))
    go_ret
    exact ⟨by first | rfl | (simp [errW_none, errW_some] <;> rfl) | (simp [*, errW_none, errW_some] <;> rfl), by repeat (first | (with_reducible first | exact HB.out | apply below_alloc | apply pw_below_drewN | apply below_drew1 | refine below_set ?_ GE157001.out) | exact HB.out)⟩
  ·replace c5 := Bool.eq_false_iff.mpr c5
   subst c5
   have H1 : (some false) = some r := by rw [if_neg (show ¬ (false = true) by decide)] at H; exact H
   clear H
   have H := H1
   clear H1
   obtain rfl := Option.some.inj H
   go_enter Try.func157, Try.ntmps157
   go_wp2_with (first | ((with_reducible refine gate_dst (N := 1) rfl ?_); refine box_event ?hg (N := 1) ?hd (cs := #[.string a0_0, .slice A0_1 l0_1.length c0_1, .int .i64 a0_2]) (t := 116) ?hr ?_; (case hd => rfl); (case hg => rfl); (case hr => first | (go_simp; done) | (go_simp; rfl)); intro gb157001 hg w15 hbox hb; have n0_ := Aside0.mk (below_step (by exact HB.out) hb); have n1_ := Aside0.mk (hbox); have n2_ := Aside0.mk ((by rw [hg]; exact (below_size (by exact HB.out)) : w.heap.size ≤ gb157001)); have n3_ := n2_; clear HB; have HB := n0_; have BK157001 := n1_; have GW157001 := n2_; have GE157001 := n3_; clear n0_ n1_ n2_ n3_; clear hb hbox hg; have hcz16_0 : w15.cell? ⟨gb157001, 0, none⟩ = some (.string a0_0) := (blk_cell BK157001.out 0).trans rfl; have hcz16_1 : w15.cell? ⟨gb157001, 1, none⟩ = some (.slice A0_1 l0_1.length c0_1) := (blk_cell BK157001.out 1).trans rfl; have hcz16_2 : w15.cell? ⟨gb157001, 2, none⟩ = some (.int .i64 a0_2) := (blk_cell BK157001.out 2).trans rfl) | ((with_reducible refine gate_callee (f := 175) rfl ?_); refine goesL_ (some 5) rfl rfl Try.func175 (by kernel_rfl) rfl #[.string a0_0] rfl (by (try simp only [List.map_toArray, List.map_cons, List.map_nil]); first | done | rfl | (simp only [List.length_drop, List.length_take]; rfl)) ?_; (with_reducible refine (impl_IsName.calls k a0_0 true _ A2.out).mono ?_); rintro e w' ⟨rfl, ⟨nd, rfl⟩⟩; refine ⟨_, rfl, ?_⟩) | (go_at_call 168; (with_reducible refine (impl_LabelOk.calls k _ _ l0_1 false _ ?side1 ?side2 A4.out).mono ?_); (case side1 => exact (Kd.C_below HR0_1.out (by repeat (first | (with_reducible first | exact HB.out | apply below_alloc | apply pw_below_drewN | apply below_drew1 | refine below_set ?_ GE157001.out) | exact HB.out)))); (case side2 => exact HC0_1.out); rintro e w17 ⟨rfl, hb⟩; have n0_ := Aside0.mk (blk_below (by exact BK157001.out) hb); have n1_ := Aside0.mk (below_step (by repeat (first | (with_reducible first | exact HB.out | apply below_alloc | apply pw_below_drewN | apply below_drew1 | refine below_set ?_ GE157001.out) | exact HB.out)) hb); clear BK157001; clear HB; have BK157001 := n0_; have HB := n1_; clear n0_ n1_; (try clear hb); (try clear hb2); (try clear hk); (try clear hi)))
   go_ret
   exact ⟨by first | rfl | (simp [errW_none, errW_some] <;> rfl) | (simp [*, errW_none, errW_some] <;> rfl), by repeat (first | (with_reducible first | exact HB.out | apply below_alloc | apply pw_below_drewN | apply below_drew1 | refine below_set ?_ GE157001.out) | exact HB.out)⟩
 ·replace c3 := Bool.eq_false_iff.mpr c3
  subst c3
  have H1 : (some false) = some r := by rw [if_neg (show ¬ (false = true) by decide)] at H; exact H
  clear H
  have H := H1
  clear H1
  obtain rfl := Option.some.inj H
  go_enter Try.func157, Try.ntmps157
  go_wp2_with (first | ((with_reducible refine gate_dst (N := 1) rfl ?_); refine box_event ?hg (N := 1) ?hd (cs := #[.string a0_0, .slice A0_1 l0_1.length c0_1, .int .i64 a0_2]) (t := 116) ?hr ?_; (case hd => rfl); (case hg => rfl); (case hr => first | (go_simp; done) | (go_simp; rfl)); intro gb157001 hg w18 hbox hb; have n0_ := Aside0.mk (below_step (by exact HB.out) hb); have n1_ := Aside0.mk (hbox); have n2_ := Aside0.mk ((by rw [hg]; exact (below_size (by exact HB.out)) : w.heap.size ≤ gb157001)); have n3_ := n2_; clear HB; have HB := n0_; have BK157001 := n1_; have GW157001 := n2_; have GE157001 := n3_; clear n0_ n1_ n2_ n3_; clear hb hbox hg; have hcz19_0 : w18.cell? ⟨gb157001, 0, none⟩ = some (.string a0_0) := (blk_cell BK157001.out 0).trans rfl; have hcz19_1 : w18.cell? ⟨gb157001, 1, none⟩ = some (.slice A0_1 l0_1.length c0_1) := (blk_cell BK157001.out 1).trans rfl; have hcz19_2 : w18.cell? ⟨gb157001, 2, none⟩ = some (.int .i64 a0_2) := (blk_cell BK157001.out 2).trans rfl) | ((with_reducible refine gate_callee (f := 175) rfl ?_); refine goesL_ (some 5) rfl rfl Try.func175 (by kernel_rfl) rfl #[.string a0_0] rfl (by (try simp only [List.map_toArray, List.map_cons, List.map_nil]); first | done | rfl | (simp only [List.length_drop, List.length_take]; rfl)) ?_; (with_reducible refine (impl_IsName.calls k a0_0 false _ A2.out).mono ?_); rintro e w' ⟨rfl, ⟨nd, rfl⟩⟩; refine ⟨_, rfl, ?_⟩))
  go_ret
  exact ⟨by first | rfl | (simp [errW_none, errW_some] <;> rfl) | (simp [*, errW_none, errW_some] <;> rfl), by repeat (first | (with_reducible first | exact HB.out | apply below_alloc | apply pw_below_drewN | apply below_drew1 | refine below_set ?_ GE157001.out) | exact HB.out)⟩

end Go.Proofs.Ytodfnelilhjoeaa.Pr
namespace Go.Proofs.Ytodfnelilhjoeaa.Pr
open Go.RowKit Go.Proofs.YtodfnelilhjoeaaW.PrintWords Go.Proofs.Ytodfnelilhjoeaa.Ni
def nodeB (s : ByteArray) (l : List Int) (n : Int) : Bool := nameB s && labB l && (decide (0 ≤ n) && decide (n ≤ 3))
theorem spec_NodeOk_f (s : ByteArray) (l : List Int) (n : Int) (hs : s.size ≤ 9223372036854775807) (hl : l.length ≤ 9223372036854775807) (k : Nat) (hk : 2 ^ 64 ≤ k) : spec_NodeOk.f k s l n = some (nodeB s l n) := by
 unfold spec_NodeOk.f nodeB spec_l01In.f
 rw [spec_IsName_f s hs k hk, Option.bind_some, spec_LabelOk_f l hl k hk]
 cases nameB s
 ·rfl
 ·rw [if_pos rfl, Option.bind_some]
  cases labB l
  ·rfl
  ·rw [if_pos rfl]
   by_cases h : n ≥ 0
   ·rw [if_pos h, decide_eq_true (show (0 : Int) ≤ n from h)]; rfl
   ·rw [if_neg h, decide_eq_false (show ¬ (0 : Int) ≤ n from h)]; rfl
theorem impl_NodeOk_f (s : ByteArray) (l : List Int) (n : Int) (hs : s.size ≤ 9223372036854775807) (hl : l.length ≤ 9223372036854775807) (k : Nat) (hk : 2 ^ 64 ≤ k) : impl_NodeOk.f k s l n = some (nodeB s l n) := by
 unfold impl_NodeOk.f nodeB
 rw [impl_IsName_f s hs k hk, Option.bind_some, impl_LabelOk_f l hl k hk]
 cases nameB s
 ·rfl
 ·rw [if_pos rfl, Option.bind_some]
  cases labB l
  ·rfl
  ·rw [if_pos rfl]
   by_cases h : n ≥ 0
   ·rw [if_pos h, decide_eq_true (show (0 : Int) ≤ n from h)]; rfl
   ·rw [if_neg h, decide_eq_false (show ¬ (0 : Int) ≤ n from h)]; rfl
end Go.Proofs.Ytodfnelilhjoeaa.Pr
