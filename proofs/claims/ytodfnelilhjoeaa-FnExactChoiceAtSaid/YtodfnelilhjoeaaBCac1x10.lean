/- The texts of one claim, put together by a program of this session. -/
import Derived.Deep.LoopGhost
import Derived.Test.YtodfnelilhjoeaaBCac1x1
import Derived.Test.YtodfnelilhjoeaaBCac1x3
import Derived.Test.YtodfnelilhjoeaaBCac1x7
import Derived.Test.YtodfnelilhjoeaaBCac1x8
import Derived.Test.YtodfnelilhjoeaaBCac1x9
namespace Go.Proofs.Ytodfnelilhjoeaa.Pr
open Go.RowKit Go.Proofs.YtodfnelilhjoeaaW.PrintWords Go.Proofs.YtodfnelilhjoeaaW.PrintLast Go.Proofs.YtodfnelilhjoeaaW.PrintMore
attribute [local go_sem] max2_int min2_int max_two min_two max_three min_three max_four min_four
set_option linter.unusedVariables false
set_option linter.unusedSimpArgs false

/-! ### impl_ShowOk: function 72 (by hand) -/
-- IMPORT Derived.Test.YtodfnelilhjoeaaUNodes
-- IMPORT Derived.Test.YtodfnelilhjoeaaUQuiet
-- IMPORT Derived.Test.YtodfnelilhjoeaaUWatched
-- IMPORT Derived.Deep.LoopGhost
open Go.Proofs.Ytodfnelilhjoeaa.Ni
def nodeW (ns : List S116) (n : S116) : Bool := !(n.f1.any fun x => !watchedB ns n.f1 x)
def pshowB (ns : List S116) (ts : List S90) (z : Int) : Bool := areNodesB ns && areTiesB ns ts && !(decide (z < 1)) && !(decide (10 < z)) && ns.all (nodeW ns)
def impl_ShowOk.f (l0_0 : List (S116)) (l0_1 : List (S90)) (a0_2 : Int) : Option Bool := if fitN l0_0 = true then some (pshowB l0_0 l0_1 a0_2) else none
set_option maxHeartbeats 8000000 in
theorem impl_ShowOk_1.clo (k : Nat) (hk : 2 ^ 64 ≤ k) (B D : Nat) (A0_0 : Option Addr) (c0_0 : Nat) (l0_0 : List S116) (A0_1 : Option Addr) (c0_1 : Nat) (l0_1 : List S90) (a0_2 : Int) (An : Option Addr) (cn : Nat) (lb : List Int) (x : Int) (W : World)
  (h0 : W.cell? ⟨B, 0, none⟩ = some (.slice A0_0 l0_0.length c0_0)) (h1 : W.cell? ⟨B, 1, none⟩ = some (.slice A0_1 l0_1.length c0_1)) (h2 : W.cell? ⟨B, 2, none⟩ = some (.int .i64 a0_2)) (h3 : W.cell? ⟨D, 1, none⟩ = some (.slice An lb.length cn))
  (hr0_0 : Kd.C k116 W A0_0 l0_0.length l0_0) (hc0_0 : l0_0.length ≤ c0_0) (hr0_1 : Kd.C k90 W A0_1 l0_1.length l0_1) (hc0_1 : l0_1.length ≤ c0_1) (hrn : Kd.C (Kd.int .i64) W An lb.length lb) (hcn : lb.length ≤ cn)
  (hf : impl_isWatched.f k l0_0 l0_1 a0_2 lb x = some (watchedB l0_0 lb x)) :
  Calls Try.prog 124 #[.int .i64 x, .pointer (some ⟨B, 0, none⟩), .pointer (some ⟨D, 0, none⟩)] W fun e w' => e = .returned (.bool (!watchedB l0_0 lb x)) ∧ Below W.heap.size W w' := by
 have hltB : B < W.heap.size := World.block_lt_of_cell? W _ h0
 have hltD : D < W.heap.size := World.block_lt_of_cell? W _ h3
 have HC := Aside0.mk (impl_isWatched.calls k A0_0 c0_0 l0_0 A0_1 c0_1 l0_1 a0_2 An cn lb x _ W hr0_0 hc0_0 hr0_1 hc0_1 hrn hcn hf)
 have hu := Try.underlying35
 have hu2 := Try.underlying116
 clear hr0_0 hr0_1 hrn hf hc0_0 hc0_1 hcn
 cases b : watchedB l0_0 lb x
 all_goals
  rw [b] at HC
  clear b
  go_enter Try.func124, Try.ntmps124
  go_wp2_with (go_at_call 125; refine HC.out.mono ?_; rintro e w' ⟨rfl, hb⟩)
  go_ret
  exact ⟨rfl, hb⟩
set_option maxHeartbeats 8000000 in
set_option maxRecDepth 100000 in
theorem impl_ShowOk.calls (A0_0 : Option Addr) (c0_0 : Nat) (l0_0 : List (S116)) (A0_1 : Option Addr) (c0_1 : Nat) (l0_1 : List (S90)) (a0_2 : Int) (r : Bool) (w : World) (hr0_0 : Kd.C k116 w A0_0 l0_0.length l0_0) (hc0_0 : l0_0.length ≤ c0_0) (hr0_1 : Kd.C k90 w A0_1 l0_1.length l0_1) (hc0_1 : l0_1.length ≤ c0_1) (h : impl_ShowOk.f l0_0 l0_1 a0_2 = some r) :
  Calls Try.prog 72 #[.agg #[.slice A0_0 l0_0.length c0_0, .slice A0_1 l0_1.length c0_1, .int .i64 a0_2]] w fun e w' => e = .returned (.bool r) ∧ Below w.heap.size w w' := by
 by_cases hfit : fitN l0_0 = true
 case neg => rw [impl_ShowOk.f, if_neg hfit] at h; exact absurd h (by simp)
 rw [impl_ShowOk.f, if_pos hfit] at h
 obtain rfl := Option.some.inj h
 have hfi := fitN_iff hfit
 have hL : l0_0.length ≤ 9223372036854775807 := hr0_0.2.1
 have HRn := Aside0.mk hr0_0; have HRt := Aside0.mk hr0_1; have HCn := Aside0.mk hc0_0; have HCt := Aside0.mk hc0_1; have HFI := Aside0.mk hfi
 have B1 := Aside0.mk (below_alloc (Below.refl w.heap.size w) (.cells #[.slice A0_0 l0_0.length c0_0, .slice A0_1 l0_1.length c0_1, .int .i64 a0_2] 35))
 have HK := Aside0.mk fun (W : World) (hA : Below (w.alloc (.cells #[.slice A0_0 l0_0.length c0_0, .slice A0_1 l0_1.length c0_1, .int .i64 a0_2] 35)).heap.size (w.alloc (.cells #[.slice A0_0 l0_0.length c0_0, .slice A0_1 l0_1.length c0_1, .int .i64 a0_2] 35)) W) => And.intro (B1.out.trans (hA.mono B1.out.size)) (And.intro (kcell hA (show _ = some (.slice A0_0 l0_0.length c0_0) from showCell0 w _ _ _ _)) (And.intro (kcell hA (showCell1 w _ _ _ _)) (And.intro (kcell hA (showCell2 w _ _ _ _)) (show w.heap.size < W.heap.size from Nat.lt_of_lt_of_le (by simp) hA.size))))
 have HN := Aside0.mk fun (W : World) (hb : Below w.heap.size w W) => impl_areNodes.calls (2 ^ 65) A0_0 c0_0 l0_0 A0_1 c0_1 l0_1 a0_2 _ W (Kd.C_below hr0_0 hb) hc0_0 (Kd.C_below hr0_1 hb) hc0_1 (areNodes_f l0_0 l0_1 a0_2 hfi (2 ^ 65) (Nat.le_refl _))
 have HT := Aside0.mk fun (W : World) (hb : Below w.heap.size w W) => impl_areTies.calls A0_0 c0_0 l0_0 A0_1 c0_1 l0_1 a0_2 _ W (Kd.C_below hr0_0 hb) hc0_0 (Kd.C_below hr0_1 hb) hc0_1 rfl
 have hlb : areNodesB l0_0 = true → ∀ n ∈ l0_0, ∀ x ∈ n.f1, litOk x = true := areNodesB_lit
 clear hr0_0 hr0_1 hc0_0 hc0_1 h hfi hfit
 have hu := Try.underlying35
 have hu2 := Try.underlying116
 cases b1 : areNodesB l0_0 with
 | false =>
  rw [b1] at HN
  have HF := Aside0.mk (show pshowB l0_0 l0_1 a0_2 = false by simp [pshowB, b1])
  clear hlb b1
  go_enter Try.func72, Try.ntmps72
  go_wp2_with (go_at_call 121; refine (HN.out _ B1.out).mono ?_; rintro e w1 ⟨rfl, hb⟩; obtain ⟨hB, hc0, hc1, hc2, hS⟩ := HK.out _ hb)
  go_ret
  exact ⟨by rw [HF.out]; rfl, hB⟩
 | true =>
 rw [b1] at HN
 have HLB := Aside0.mk (hlb b1)
 clear hlb
 cases b2 : areTiesB l0_0 l0_1 with
 | false =>
  rw [b2] at HT
  have HF := Aside0.mk (show pshowB l0_0 l0_1 a0_2 = false by simp [pshowB, b2])
  clear b1 b2
  go_enter Try.func72, Try.ntmps72
  go_wp2_with (first | (go_at_call 121; refine (HN.out _ B1.out).mono ?_; rintro e w1 ⟨rfl, hA⟩; obtain ⟨hB, hc0, hc1, hc2, hS⟩ := HK.out _ hA) | (go_at_call 122; refine (HT.out _ hB).mono ?_; rintro e w2 ⟨rfl, hb⟩; replace hA := hA.trans (hb.mono hA.size); clear hB hc0 hc1 hc2 hS; obtain ⟨hB, hc0, hc1, hc2, hS⟩ := HK.out _ hA; clear hb))
  go_ret
  exact ⟨by rw [HF.out]; rfl, hB⟩
 | true =>
 rw [b2] at HT
 cases b3 : decide (a0_2 < 1) with
 | true =>
  have HF := Aside0.mk (show pshowB l0_0 l0_1 a0_2 = false by simp [pshowB, b3])
  clear b1 b2
  go_enter Try.func72, Try.ntmps72
  go_wp2_with (first | (go_at_call 121; refine (HN.out _ B1.out).mono ?_; rintro e w1 ⟨rfl, hA⟩; obtain ⟨hB, hc0, hc1, hc2, hS⟩ := HK.out _ hA) | (go_at_call 122; refine (HT.out _ hB).mono ?_; rintro e w2 ⟨rfl, hb⟩; replace hA := hA.trans (hb.mono hA.size); clear hB hc0 hc1 hc2 hS; obtain ⟨hB, hc0, hc1, hc2, hS⟩ := HK.out _ hA; clear hb))
  go_ret
  exact ⟨by rw [HF.out]; rfl, hB⟩
 | false =>
 cases b4 : decide (10 < a0_2) with
 | true =>
  have HF := Aside0.mk (show pshowB l0_0 l0_1 a0_2 = false by simp [pshowB, b4])
  clear b1 b2
  go_enter Try.func72, Try.ntmps72
  go_wp2_with (first | (go_at_call 121; refine (HN.out _ B1.out).mono ?_; rintro e w1 ⟨rfl, hA⟩; obtain ⟨hB, hc0, hc1, hc2, hS⟩ := HK.out _ hA) | (go_at_call 122; refine (HT.out _ hB).mono ?_; rintro e w2 ⟨rfl, hb⟩; replace hA := hA.trans (hb.mono hA.size); clear hB hc0 hc1 hc2 hS; obtain ⟨hB, hc0, hc1, hc2, hS⟩ := HK.out _ hA; clear hb))
  go_ret
  exact ⟨by rw [HF.out]; rfl, hB⟩
 | false =>
 have HF := Aside0.mk (show pshowB l0_0 l0_1 a0_2 = l0_0.all (nodeW l0_0) by simp [pshowB, b1, b2, b3, b4])
 clear b1 b2
 go_enter Try.func72, Try.ntmps72
 go_wp2_with (first | (go_at_call 121; refine (HN.out _ B1.out).mono ?_; rintro e w1 ⟨rfl, hA⟩; obtain ⟨hB, hc0, hc1, hc2, hS⟩ := HK.out _ hA) | (go_at_call 122; refine (HT.out _ hB).mono ?_; rintro e w2 ⟨rfl, hb⟩; replace hA := hA.trans (hb.mono hA.size); clear hB hc0 hc1 hc2 hS; obtain ⟨hB, hc0, hc1, hc2, hS⟩ := HK.out _ hA; clear hb))
 have HB0 := Aside0.mk hB
 have HX0 := Aside0.mk (And.intro hc0 (And.intro hc1 hc2))
 have HS0 := Aside0.mk hS; clear hA hB hc0 hc1 hc2 hS
 go_loopg [4, 26] l0_0.length (fun gg _ s26 wr => ∃ kk : Nat, Aside0 (kk ≤ l0_0.length) ∧ Aside0 (l0_0.length - kk ≤ gg) ∧ s26 = .int .i64 kk ∧ Aside0 (Below w.heap.size w wr) ∧ Aside0 (w.heap.size < wr.heap.size) ∧ Aside0 (wr.cell? ⟨w.heap.size, 0, none⟩ = some (.slice A0_0 l0_0.length c0_0) ∧ wr.cell? ⟨w.heap.size, 1, none⟩ = some (.slice A0_1 l0_1.length c0_1) ∧ wr.cell? ⟨w.heap.size, 2, none⟩ = some (.int .i64 a0_2)) ∧ Aside0 (l0_0.all (nodeW l0_0) = (l0_0.drop kk).all (nodeW l0_0)))
 case atStart => exact ⟨0, ⟨Nat.zero_le _⟩, ⟨by omega⟩, rfl, HB0, HS0, HX0, ⟨rfl⟩⟩
 case round =>
  obtain ⟨kk, HK', HG, rfl, HBr, HS, HX, HN'⟩ := hrel
  have hsz := HS.out
  obtain ⟨hb0, hb1, hb2_⟩ := HX.out
  by_cases hlt : kk < l0_0.length
  ·have hltz : (kk : Int) < (l0_0.length : Int) := by omega
   obtain ⟨ad, Am, cm, e1, hm0, hm1, hm2, lm, gm⟩ := at_T116 HRn.out (kk : Int) (by omega) hltz
   cases e1
   have HDR := Aside0.mk (drop_cons hlt z116)
   have hmem := Aside0.mk (getD_mem hlt z116)
   rw [← rdN_nat] at HDR hmem
   rw [Int.toNat_natCast] at hm0 hm1 hm2
   generalize rd_T116 l0_0 (kk : Int) = y at hm0 hm1 hm2 lm gm HDR hmem
   replace hm0 := kcell HBr.out hm0
   replace hm1 := kcell HBr.out hm1
   replace hm2 := kcell HBr.out hm2
   have hlta := World.block_lt_of_cell? wr _ hm0
   have LM := Aside0.mk lm
   have GM := Aside0.mk (Kd.C_below gm HBr.out)
   clear lm gm
   have B2 := Aside0.mk (below_alloc (Below.refl wr.heap.size wr) (.cells #[.string y.f0, .slice Am y.f1.length cm, .int .i64 y.f2] 116))
   have HC := Aside0.mk fun (W : World) (hb : Below wr.heap.size wr W) (hcell : W.cell? ⟨wr.heap.size, 1, none⟩ = some (.slice Am y.f1.length cm)) => slices_ContainsFunc_int_int.any (fun x => !watchedB l0_0 y.f1 x) 124 #[.pointer (some ⟨w.heap.size, 0, none⟩), .pointer (some ⟨wr.heap.size, 0, none⟩)] (enters_of Try.func124 (by kernel_rfl) rfl) Am cm y.f1 W (Kd.C_below GM.out hb)
    (fun W' x hx hb' => impl_ShowOk_1.clo (2 ^ 64) (Nat.le_refl _) w.heap.size wr.heap.size (some ad) c0_0 l0_0 A0_1 c0_1 l0_1 a0_2 Am cm y.f1 x W' (kcell hb' (kcell hb HX.out.1)) (kcell hb' (kcell hb HX.out.2.1)) (kcell hb' (kcell hb HX.out.2.2)) (kcell hb' hcell)
     (Kd.C_below (Kd.C_below (Kd.C_below HRn.out HBr.out) hb) hb') HCn.out (Kd.C_below (Kd.C_below (Kd.C_below HRt.out HBr.out) hb) hb') HCt.out (Kd.C_below (Kd.C_below GM.out hb) hb') LM.out
     (isWatched_f l0_0 l0_1 a0_2 y.f1 x (fun n hn => (HFI.out n hn).2) (HFI.out y hmem.out).2 (HLB.out y hmem.out x hx) (2 ^ 64) (Nat.le_refl _)))
   cases b5 : y.f1.any (fun x => !watchedB l0_0 y.f1 x) with
   | true =>
    rw [b5] at HC
    have HF2 := Aside0.mk (show pshowB l0_0 l0_1 a0_2 = false by
     rw [HF.out, HN'.out, HDR.out, List.all_cons, show nodeW l0_0 y = false by unfold nodeW; rw [b5]; rfl]; rfl)
    clear b5
    go_wp2_with fail
    refine (HC.out _ B2.out (by go_simp)).mono ?_
    rintro e w3 ⟨rfl, hb⟩
    have hb3 := B2.out.trans (hb.mono B2.out.size)
    go_wp2
    go_ret
    exact ⟨by rw [HF2.out]; rfl, HBr.out.trans (hb3.mono HBr.out.size)⟩
   | false =>
    rw [b5] at HC
    have HF2 := Aside0.mk (show l0_0.all (nodeW l0_0) = (l0_0.drop (kk + 1)).all (nodeW l0_0) by
     rw [HN'.out, HDR.out, List.all_cons, show nodeW l0_0 y = true by unfold nodeW; rw [b5]; rfl]; rfl)
    clear b5
    go_wp2_with fail
    refine (HC.out _ B2.out (by go_simp)).mono ?_
    rintro e w3 ⟨rfl, hb⟩
    have hb3 := B2.out.trans (hb.mono B2.out.size)
    go_wp2
    go_roundg (l0_0.length - (kk + 1))
    case measure => have := HG.out; omega
    case rel => exact ⟨kk + 1, ⟨by omega⟩, ⟨by omega⟩, by go_num, ⟨HBr.out.trans (hb3.mono HBr.out.size)⟩, ⟨by have := hb3.size; omega⟩, ⟨kcell hb3 hb0, kcell hb3 hb1, kcell hb3 hb2_⟩, HF2⟩
  ·have hltz : ¬ (kk : Int) < (l0_0.length : Int) := by omega
   have : kk = l0_0.length := by have := HK'.out; omega
   subst this
   have HF2 := Aside0.mk (show pshowB l0_0 l0_1 a0_2 = true by
    rw [HF.out, HN'.out, List.drop_length]; rfl)
   go_wp2
   go_ret
   exact ⟨by rw [HF2.out]; rfl, HBr.out⟩

end Go.Proofs.Ytodfnelilhjoeaa.Pr

namespace Go.Proofs.Ytodfnelilhjoeaa.Pr
open Go.RowKit Go.Proofs.YtodfnelilhjoeaaW.PrintWords Go.Proofs.YtodfnelilhjoeaaW.PrintLast Go.Proofs.YtodfnelilhjoeaaW.PrintMore
attribute [local go_sem] max2_int min2_int max_two min_two max_three min_three max_four min_four
set_option linter.unusedVariables false
set_option linter.unusedSimpArgs false

/-! ### impl_freeTies: function 80 -/
def impl_freeTies.l0 : Nat → List Int → List (S90) → Int → Int → Option (List Int)
 | 0, _, _, _, _ => none
 | k + 1, x3, x7, x8, x9 => if x9 < x8 then (if 0 ≤ x9 then (if x9 < (x7.length : Int) then (if (rd_T90 x7 x9).f4 = true then (if x3.length < 17592186044416 then (impl_freeTies.l0 k (x3 ++ [x9]) x7 x8 (wrap64 (x9 + 1))) else (none)) else (impl_freeTies.l0 k x3 x7 x8 (wrap64 (x9 + 1)))) else (none)) else (none)) else (some x3)
def impl_freeTies.f (k : Nat) (l0_0 : List (S116)) (l0_1 : List (S90)) (a0_2 : Int) : Option (List Int) := impl_freeTies.l0 k ([] : List Int) l0_1 (l0_1.length : Int) 0
set_option maxHeartbeats 8000000 in
set_option maxRecDepth 100000 in
theorem impl_freeTies.calls (k : Nat) (A0_0 : Option Addr) (c0_0 : Nat) (l0_0 : List (S116)) (A0_1 : Option Addr) (c0_1 : Nat) (l0_1 : List (S90)) (a0_2 : Int) (r : List Int) (w : World) (hr0_0 : Kd.C k116 w A0_0 l0_0.length l0_0) (hc0_0 : l0_0.length ≤ c0_0) (hr0_1 : Kd.C k90 w A0_1 l0_1.length l0_1) (hc0_1 : l0_1.length ≤ c0_1) (h : impl_freeTies.f k l0_0 l0_1 a0_2 = some r) :
  Calls Try.prog 80 #[.agg #[.slice A0_0 l0_0.length c0_0, .slice A0_1 l0_1.length c0_1, .int .i64 a0_2]] w fun e w' => ∃ v0_ : Value, e = .returned (v0_) ∧ Kd.R (Kd.int .i64) 3 w' w.heap.size (fun _ => True) v0_ r ∧ Below w.heap.size w w' := by
 have hu35 := Try.underlying35
 have hu90 := Try.underlying90
 have HR0_0 := Aside0.mk hr0_0; have HC0_0 := Aside0.mk hc0_0; clear hr0_0 hc0_0; have HR0_1 := Aside0.mk hr0_1; have HC0_1 := Aside0.mk hc0_1; clear hr0_1 hc0_1
 have HB := Aside0.mk (Below.refl w.heap.size w)
 have H : (impl_freeTies.l0 k ([] : List Int) l0_1 (l0_1.length : Int) 0) = some r := h
 clear h
 have H' := Aside0.mk H
 clear H
 go_enter Try.func80, Try.ntmps80
 go_wp2_with (first | ((with_reducible refine gate_dst (N := 1) rfl ?_); refine box_event ?hg (N := 1) ?hd (cs := #[.slice A0_0 l0_0.length c0_0, .slice A0_1 l0_1.length c0_1, .int .i64 a0_2]) (t := 35) ?hr ?_; (case hd => rfl); (case hg => rfl); (case hr => first | (go_simp; done) | (go_simp; rfl)); intro gb80001 hg w2 hbox hb; have n0_ := Aside0.mk (below_step (by repeat (first | (with_reducible first | exact HB.out | apply below_alloc | apply pw_below_drewN | apply below_drew1) | exact HB.out)) hb); have n1_ := Aside0.mk (hbox); have n2_ := Aside0.mk ((by rw [hg]; exact (below_size (by repeat (first | (with_reducible first | exact HB.out | apply below_alloc | apply pw_below_drewN | apply below_drew1) | exact HB.out))) : w.heap.size ≤ gb80001)); have n3_ := Aside0.mk ((by rw [hg]; exact (below_size (by repeat (first | (with_reducible first | exact HB.out | apply below_alloc | apply pw_below_drewN | apply below_drew1) | exact HB.out))) : w.heap.size ≤ gb80001)); clear HB; have HB := n0_; have BK80001 := n1_; have GW80001 := n2_; have GE80001 := n3_; clear n0_ n1_ n2_ n3_; clear hb hbox hg; have hcz3_0 : w2.cell? ⟨gb80001, 0, none⟩ = some (.slice A0_0 l0_0.length c0_0) := (blk_cell BK80001.out 0).trans rfl; have hcz3_1 : w2.cell? ⟨gb80001, 1, none⟩ = some (.slice A0_1 l0_1.length c0_1) := (blk_cell BK80001.out 1).trans rfl; have hcz3_2 : w2.cell? ⟨gb80001, 2, none⟩ = some (.int .i64 a0_2) := (blk_cell BK80001.out 2).trans rfl; have hfz3_0 := blk_frozen BK80001.out 0; have hfz3_1 := blk_frozen BK80001.out 1; have hfz3_2 := blk_frozen BK80001.out 2))
 go_loopg [3, 9] k (fun kq v3 v9 w' => ∃ (x3_1 : List Int) (x9_1 : Int), v9 = .int .i64 x9_1 ∧ Aside0 (impl_freeTies.l0 kq x3_1 l0_1 (l0_1.length : Int) x9_1 = some r) ∧ Aside0 (kq ≤ k) ∧ Aside0 (Kd.R (Kd.int .i64) 3 w' w.heap.size (fun _ => True) v3 x3_1) ∧ Aside0 (w'.heap[gb80001]? = some (.cells #[(.slice A0_0 l0_0.length c0_0), (.slice A0_1 l0_1.length c0_1), .int .i64 a0_2] 35 (0, 0))) ∧ Aside0 (Below w.heap.size w w'))
 case atStart => exact ⟨(([] : List Int)), (0), (by first | rfl | (simp; done) | (simp [*]; done)), H', ⟨Nat.le_refl _⟩, ⟨by first | exact Kd.R_nil _ _ _ _ _ | exact Kd.N_nil _ _ _ _ _ | exact Kd.V_nil _ _ _ _ _ | exact Kd.Q_nil _ _ _ _ _ | exact Kd.S_nil _ _ _ _ _⟩, ⟨by (with_reducible repeat (first | refine blk_drewN ?_ _ | refine blk_drew ?_ | refine blk_alloc ?_ _)); exact BK80001.out⟩, ⟨by repeat (first | (with_reducible first | exact HB.out | apply below_alloc | apply pw_below_drewN | apply below_drew1 | refine below_set ?_ GE80001.out) | exact HB.out)⟩⟩
 case round =>
  clear H'
  try clear p2
  try clear hcz3_0
  try clear hcz3_1
  try clear hcz3_2
  try clear hfz3_0
  try clear hfz3_1
  try clear hfz3_2
  obtain ⟨x3_1, x9_1, rfl, HA, HK1, HO_3, BK80001, HB⟩ := hrel
  cases gk with
  | zero => exact absurd HA.out (by simp [impl_freeTies.l0])
  | succ k1 =>
   have H := HA.out
   clear HA
   simp only [impl_freeTies.l0] at H
   by_cases c4 : x9_1 < (l0_1.length : Int)
   ·rw [if_pos c4] at H
    have c4b0 : decide (x9_1 < (l0_1.length : Int)) = true := decide_eq_true c4
    clear c4
    by_cases c5 : 0 ≤ x9_1
    ·rw [if_pos c5] at H
     have c5b0 : decide (0 ≤ x9_1) = true := decide_eq_true c5
     clear c5
     by_cases c6 : x9_1 < (l0_1.length : Int)
     ·rw [if_pos c6] at H
      have c6b0 : decide (x9_1 < (l0_1.length : Int)) = true := decide_eq_true c6
      clear c6
      obtain ⟨bq7, hbq7⟩ : ∃ b_ : Bool, b_ = ((rd_T90 l0_1 x9_1).f4) := ⟨_, rfl⟩
      replace H : (if bq7 = true then (if x3_1.length < 17592186044416 then (impl_freeTies.l0 k1 (x3_1 ++ [x9_1]) l0_1 (l0_1.length : Int) (wrap64 (x9_1 + 1))) else (none)) else (impl_freeTies.l0 k1 x3_1 l0_1 (l0_1.length : Int) (wrap64 (x9_1 + 1)))) = some r := by rw [← hbq7] at H; exact H
      have Nbq7 := Aside0.mk hbq7; clear hbq7
      by_cases c8 : bq7 = true
      ·subst c8
       have H1 : (if x3_1.length < 17592186044416 then (impl_freeTies.l0 k1 (x3_1 ++ [x9_1]) l0_1 (l0_1.length : Int) (wrap64 (x9_1 + 1))) else (none)) = some r := by rw [if_pos rfl] at H; exact H
       clear H
       have H := H1
       clear H1
       by_cases c9 : x3_1.length < 17592186044416
       ·rw [if_pos c9] at H
        have LMc9 := Aside0.mk c9; clear c9
        obtain ⟨y80004, hy80004⟩ : ∃ y_ : List Int, y_ = (x3_1 ++ [x9_1]) := ⟨_, rfl⟩
        replace H : (impl_freeTies.l0 k1 y80004 l0_1 (l0_1.length : Int) (wrap64 (x9_1 + 1))) = some r := by first | (rw [hy80004]; with_reducible exact H) | (have H2_ := (Option.bind_some _ _).symm.trans H; rw [hy80004]; with_reducible exact H2_) | (have H2_ := (Option.bind_some _ _).symm.trans H; with_reducible exact H2_) | with_reducible exact H | (rw [hy80004]; exact H) | exact H
        have Ny80004 := Aside0.mk hy80004; clear hy80004
        have H' := Aside0.mk H
        clear H
        have p80002 : 0 ≤ (x9_1 : Int) := of_decide_eq_true (by first | (with_reducible assumption) | assumption)
        have q80002 : x9_1 < (l0_1.length : Int) := of_decide_eq_true (by first | (with_reducible assumption) | assumption)
        obtain ⟨ad80002, e80002, hx80002_0, hx80002_1, hx80002_2, hx80002_3, hx80002_4⟩ := at_T90 HR0_1.out x9_1 p80002 q80002
        (try rw [← Nbq7.out] at hx80002_4)
        cases e80002
        replace hx80002_0 := (HB.out.cell (World.block_lt_of_cell? w _ hx80002_0)).trans hx80002_0
        replace hx80002_1 := (HB.out.cell (World.block_lt_of_cell? w _ hx80002_1)).trans hx80002_1
        replace hx80002_2 := (HB.out.cell (World.block_lt_of_cell? w _ hx80002_2)).trans hx80002_2
        replace hx80002_3 := (HB.out.cell (World.block_lt_of_cell? w _ hx80002_3)).trans hx80002_3
        replace hx80002_4 := (HB.out.cell (World.block_lt_of_cell? w _ hx80002_4)).trans hx80002_4
        replace p80002 := eq_true p80002
        replace q80002 := eq_true q80002
        go_wp2_with (first | ((with_reducible refine gate_dst (N := 5) rfl ?_); refine box_event ?hg (N := 5) ?hd (cs := #[.int .i64 0, .int .i64 0, .int .i64 0, .int .i64 0, .bool false]) (t := 90) ?hr ?_; (case hd => rfl); (case hg => rfl); (case hr => first | (go_simp; done) | (go_simp; rfl)); intro gb80003 hg w10 hbox hb; have n0_ := Aside0.mk (Kd.R_below (by (with_reducible repeat (first | apply Kd.R_alloc | apply Kd.R_drewN | apply Kd.R_drew)); exact HO_3.out) hb); have n1_ := Aside0.mk (blk_below (g := gb80001) (o := .cells #[.slice A0_0 l0_0.length c0_0, .slice (some ad80002) l0_1.length c0_1, .int .i64 a0_2] 35 (0, 0)) (by (with_reducible repeat (first | refine blk_drewN ?_ _ | refine blk_drew ?_ | refine blk_alloc ?_ _)); exact BK80001.out) hb); have n2_ := Aside0.mk (below_step (by repeat (first | (with_reducible first | exact HB.out | apply below_alloc | apply pw_below_drewN | apply below_drew1 | refine below_set ?_ GE80001.out) | exact HB.out)) hb); have n3_ := Aside0.mk (hbox); have n4_ := Aside0.mk ((by rw [hg]; exact (below_size (by repeat (first | (with_reducible first | exact HB.out | apply below_alloc | apply pw_below_drewN | apply below_drew1 | refine below_set ?_ GE80001.out) | exact HB.out))) : w.heap.size ≤ gb80003)); have n5_ := Aside0.mk ((by rw [hg]; exact (below_size (by repeat (first | (with_reducible first | exact HB.out | apply below_alloc | apply pw_below_drewN | apply below_drew1 | refine below_set ?_ GE80001.out) | exact HB.out))) : w.heap.size ≤ gb80003)); have n6_ := Aside0.mk ((by rw [hg]; exact Nat.ne_of_lt (blk_lt (g := gb80001) (o := .cells #[.slice A0_0 l0_0.length c0_0, .slice (some ad80002) l0_1.length c0_1, .int .i64 a0_2] 35 (0, 0)) (by (with_reducible repeat (first | refine blk_drewN ?_ _ | refine blk_drew ?_ | refine blk_alloc ?_ _)); exact BK80001.out)) : gb80001 ≠ gb80003)); have n7_ := Aside0.mk ((by rw [hg]; exact Nat.ne_of_gt (blk_lt (g := gb80001) (o := .cells #[.slice A0_0 l0_0.length c0_0, .slice (some ad80002) l0_1.length c0_1, .int .i64 a0_2] 35 (0, 0)) (by (with_reducible repeat (first | refine blk_drewN ?_ _ | refine blk_drew ?_ | refine blk_alloc ?_ _)); exact BK80001.out)) : gb80003 ≠ gb80001)); clear HO_3; clear BK80001; clear HB; have HO_3 := n0_; have BK80001 := n1_; have HB := n2_; have BK80003 := n3_; have GW80003 := n4_; have GE80003 := n5_; have NB80001_80003 := n6_; have NB80003_80001 := n7_; clear n0_ n1_ n2_ n3_ n4_ n5_ n6_ n7_; clear hb hbox hg; have hnb11 := NB80003_80001.out; have hnc11 := NB80001_80003.out; have hcz12_0 : w10.cell? ⟨gb80003, 0, none⟩ = some (.int .i64 0) := (blk_cell BK80003.out 0).trans rfl; have hcz12_1 : w10.cell? ⟨gb80003, 1, none⟩ = some (.int .i64 0) := (blk_cell BK80003.out 1).trans rfl; have hcz12_2 : w10.cell? ⟨gb80003, 2, none⟩ = some (.int .i64 0) := (blk_cell BK80003.out 2).trans rfl; have hcz12_3 : w10.cell? ⟨gb80003, 3, none⟩ = some (.int .i64 0) := (blk_cell BK80003.out 3).trans rfl; have hcz12_4 : w10.cell? ⟨gb80003, 4, none⟩ = some (.bool false) := (blk_cell BK80003.out 4).trans rfl; have hfz12_0 := blk_frozen BK80003.out 0; have hfz12_1 := blk_frozen BK80003.out 1; have hfz12_2 := blk_frozen BK80003.out 2; have hfz12_3 := blk_frozen BK80003.out 3; have hfz12_4 := blk_frozen BK80003.out 4) | ((with_reducible refine gate_builtin (b := .append) (xs := #[.tmp 16, .tmp 18]) rfl ?_); at_builtin; refine Kd.R_append (Kd.int .i64) (w0 := w) w.heap.size rfl (.tmp 16) (.tmp 18) 26 3 (.int .i64 0) 8 rfl Try.underlying26 info3 rfl (by decide) (by omega) u3 x3_1 x9_1 [.int .i64 x9_1] (fun _ => True) (fun _ => False) rfl (by first | (go_simp; done) | (go_simp; rfl)) ?aP (fun _ hk => hk.elim) ?aF ?aO ?aB ?aS ?aL ?_; (case aP => exact rfl); (case aB => exact (by repeat (first | (with_reducible first | exact HB.out | apply below_alloc | apply pw_below_drewN | apply below_drew1 | refine below_set ?_ GE80001.out | refine below_set ?_ GE80003.out) | exact HB.out))); (case aF => exact (fun _ _ => trivial)); (case aO => exact (by (with_reducible repeat (first | apply Kd.R_alloc | apply Kd.R_drewN | apply Kd.R_drew)); exact Kd.R_mono (Kd.R_far (p := ⟨gb80003, 4, none⟩) (Kd.R_far (p := ⟨gb80003, 3, none⟩) (Kd.R_far (p := ⟨gb80003, 2, none⟩) (Kd.R_far (p := ⟨gb80003, 1, none⟩) (Kd.R_far (p := ⟨gb80003, 0, none⟩) (Kd.R_types HO_3.out BK80003.out (by decide)) (fun _ hk => hk.2) (.int .i64 ((rd_T90 l0_1 x9_1).f0))) (fun _ hk => hk.2) (.int .i64 ((rd_T90 l0_1 x9_1).f1))) (fun _ hk => hk.2) (.int .i64 ((rd_T90 l0_1 x9_1).f2))) (fun _ hk => hk.2) (.int .i64 ((rd_T90 l0_1 x9_1).f3))) (fun _ hk => hk.2) (.bool true)) (fun _ hk => trivial))); (case aS => exact (below_size (by repeat (first | (with_reducible first | exact HB.out | apply below_alloc | apply pw_below_drewN | apply below_drew1 | refine below_set ?_ GE80001.out | refine below_set ?_ GE80003.out) | exact HB.out)))); (case aL => have := LMc9.out; omega); intro v80005 w13 ho hb hg hat; rw [← Ny80004.out] at ho; have n0_ := Aside0.mk (blk_grown (g := gb80001) (o := .cells #[.slice A0_0 l0_0.length c0_0, .slice (some ad80002) l0_1.length c0_1, .int .i64 a0_2] 35 (0, 0)) (by (with_reducible repeat (first | refine blk_drewN ?_ _ | refine blk_drew ?_ | refine blk_alloc ?_ _)); refine blk_far ?_ NB80001_80003.out _; (with_reducible repeat (first | refine blk_drewN ?_ _ | refine blk_drew ?_ | refine blk_alloc ?_ _)); refine blk_far ?_ NB80001_80003.out _; (with_reducible repeat (first | refine blk_drewN ?_ _ | refine blk_drew ?_ | refine blk_alloc ?_ _)); refine blk_far ?_ NB80001_80003.out _; (with_reducible repeat (first | refine blk_drewN ?_ _ | refine blk_drew ?_ | refine blk_alloc ?_ _)); refine blk_far ?_ NB80001_80003.out _; (with_reducible repeat (first | refine blk_drewN ?_ _ | refine blk_drew ?_ | refine blk_alloc ?_ _)); refine blk_far ?_ NB80001_80003.out _; (with_reducible repeat (first | refine blk_drewN ?_ _ | refine blk_drew ?_ | refine blk_alloc ?_ _)); exact BK80001.out) hg (Kd.R_ne HO_3.out BK80001.out (by decide))); have n1_ := Aside0.mk (blk_grown (g := gb80003) (o := .cells #[.int .i64 ((rd_T90 l0_1 x9_1).f0), .int .i64 ((rd_T90 l0_1 x9_1).f1), .int .i64 ((rd_T90 l0_1 x9_1).f2), .int .i64 ((rd_T90 l0_1 x9_1).f3), .bool true] 90 (0, 0)) (by (with_reducible repeat (first | refine blk_drewN ?_ _ | refine blk_drew ?_ | refine blk_alloc ?_ _)); refine blk_put (cs := #[.int .i64 ((rd_T90 l0_1 x9_1).f0), .int .i64 ((rd_T90 l0_1 x9_1).f1), .int .i64 ((rd_T90 l0_1 x9_1).f2), .int .i64 ((rd_T90 l0_1 x9_1).f3), .bool false]) ?_ 4 _ rfl; (with_reducible repeat (first | refine blk_drewN ?_ _ | refine blk_drew ?_ | refine blk_alloc ?_ _)); refine blk_put (cs := #[.int .i64 ((rd_T90 l0_1 x9_1).f0), .int .i64 ((rd_T90 l0_1 x9_1).f1), .int .i64 ((rd_T90 l0_1 x9_1).f2), .int .i64 0, .bool false]) ?_ 3 _ rfl; (with_reducible repeat (first | refine blk_drewN ?_ _ | refine blk_drew ?_ | refine blk_alloc ?_ _)); refine blk_put (cs := #[.int .i64 ((rd_T90 l0_1 x9_1).f0), .int .i64 ((rd_T90 l0_1 x9_1).f1), .int .i64 0, .int .i64 0, .bool false]) ?_ 2 _ rfl; (with_reducible repeat (first | refine blk_drewN ?_ _ | refine blk_drew ?_ | refine blk_alloc ?_ _)); refine blk_put (cs := #[.int .i64 ((rd_T90 l0_1 x9_1).f0), .int .i64 0, .int .i64 0, .int .i64 0, .bool false]) ?_ 1 _ rfl; (with_reducible repeat (first | refine blk_drewN ?_ _ | refine blk_drew ?_ | refine blk_alloc ?_ _)); refine blk_put (cs := #[.int .i64 0, .int .i64 0, .int .i64 0, .int .i64 0, .bool false]) ?_ 0 _ rfl; (with_reducible repeat (first | refine blk_drewN ?_ _ | refine blk_drew ?_ | refine blk_alloc ?_ _)); exact BK80003.out) hg (Kd.R_ne HO_3.out BK80003.out (by decide))); have n2_ := Aside0.mk (hb); have n3_ := Aside0.mk (ho); clear BK80001; clear BK80003; clear HB; clear HO_3; have BK80001 := n0_; have BK80003 := n1_; have HB := n2_; have HO80006 := n3_; clear n0_ n1_ n2_ n3_; clear ho hb hg hat))
        go_roundg k1
        case measure => have := HK1.out; omega
        case rel => exact ⟨(y80004), (wrap64 (x9_1 + 1)), (by first | rfl | (simp; done) | (simp [*]; done)), H', ⟨by have := HK1.out; omega⟩, ⟨by (with_reducible repeat (first | apply Kd.R_alloc | apply Kd.R_drewN | apply Kd.R_drew)); exact HO80006.out⟩, ⟨by (with_reducible repeat (first | refine blk_drewN ?_ _ | refine blk_drew ?_ | refine blk_alloc ?_ _)); exact BK80001.out⟩, ⟨by repeat (first | (with_reducible first | exact HB.out | apply below_alloc | apply pw_below_drewN | apply below_drew1 | refine below_set ?_ GE80001.out | refine below_set ?_ GE80003.out) | exact HB.out)⟩⟩
       ·rw [if_neg c9] at H
        exact absurd H (by simp)
      ·replace c8 := Bool.eq_false_iff.mpr c8
       subst c8
       have H1 : (impl_freeTies.l0 k1 x3_1 l0_1 (l0_1.length : Int) (wrap64 (x9_1 + 1))) = some r := by rw [if_neg (show ¬ (false = true) by decide)] at H; exact H
       clear H
       have H := H1
       clear H1
       have H' := Aside0.mk H
       clear H
       have p80002 : 0 ≤ (x9_1 : Int) := of_decide_eq_true (by first | (with_reducible assumption) | assumption)
       have q80002 : x9_1 < (l0_1.length : Int) := of_decide_eq_true (by first | (with_reducible assumption) | assumption)
       obtain ⟨ad80002, e80002, hx80002_0, hx80002_1, hx80002_2, hx80002_3, hx80002_4⟩ := at_T90 HR0_1.out x9_1 p80002 q80002
       (try rw [← Nbq7.out] at hx80002_4)
       cases e80002
       replace hx80002_0 := (HB.out.cell (World.block_lt_of_cell? w _ hx80002_0)).trans hx80002_0
       replace hx80002_1 := (HB.out.cell (World.block_lt_of_cell? w _ hx80002_1)).trans hx80002_1
       replace hx80002_2 := (HB.out.cell (World.block_lt_of_cell? w _ hx80002_2)).trans hx80002_2
       replace hx80002_3 := (HB.out.cell (World.block_lt_of_cell? w _ hx80002_3)).trans hx80002_3
       replace hx80002_4 := (HB.out.cell (World.block_lt_of_cell? w _ hx80002_4)).trans hx80002_4
       replace p80002 := eq_true p80002
       replace q80002 := eq_true q80002
       go_wp2_with (first | ((with_reducible refine gate_dst (N := 5) rfl ?_); refine box_event ?hg (N := 5) ?hd (cs := #[.int .i64 0, .int .i64 0, .int .i64 0, .int .i64 0, .bool false]) (t := 90) ?hr ?_; (case hd => rfl); (case hg => rfl); (case hr => first | (go_simp; done) | (go_simp; rfl)); intro gb80003 hg w14 hbox hb; have n0_ := Aside0.mk (Kd.R_below (by (with_reducible repeat (first | apply Kd.R_alloc | apply Kd.R_drewN | apply Kd.R_drew)); exact HO_3.out) hb); have n1_ := Aside0.mk (blk_below (g := gb80001) (o := .cells #[.slice A0_0 l0_0.length c0_0, .slice (some ad80002) l0_1.length c0_1, .int .i64 a0_2] 35 (0, 0)) (by (with_reducible repeat (first | refine blk_drewN ?_ _ | refine blk_drew ?_ | refine blk_alloc ?_ _)); exact BK80001.out) hb); have n2_ := Aside0.mk (below_step (by repeat (first | (with_reducible first | exact HB.out | apply below_alloc | apply pw_below_drewN | apply below_drew1 | refine below_set ?_ GE80001.out) | exact HB.out)) hb); have n3_ := Aside0.mk (hbox); have n4_ := Aside0.mk ((by rw [hg]; exact (below_size (by repeat (first | (with_reducible first | exact HB.out | apply below_alloc | apply pw_below_drewN | apply below_drew1 | refine below_set ?_ GE80001.out) | exact HB.out))) : w.heap.size ≤ gb80003)); have n5_ := Aside0.mk ((by rw [hg]; exact (below_size (by repeat (first | (with_reducible first | exact HB.out | apply below_alloc | apply pw_below_drewN | apply below_drew1 | refine below_set ?_ GE80001.out) | exact HB.out))) : w.heap.size ≤ gb80003)); have n6_ := Aside0.mk ((by rw [hg]; exact Nat.ne_of_lt (blk_lt (g := gb80001) (o := .cells #[.slice A0_0 l0_0.length c0_0, .slice (some ad80002) l0_1.length c0_1, .int .i64 a0_2] 35 (0, 0)) (by (with_reducible repeat (first | refine blk_drewN ?_ _ | refine blk_drew ?_ | refine blk_alloc ?_ _)); exact BK80001.out)) : gb80001 ≠ gb80003)); have n7_ := Aside0.mk ((by rw [hg]; exact Nat.ne_of_gt (blk_lt (g := gb80001) (o := .cells #[.slice A0_0 l0_0.length c0_0, .slice (some ad80002) l0_1.length c0_1, .int .i64 a0_2] 35 (0, 0)) (by (with_reducible repeat (first | refine blk_drewN ?_ _ | refine blk_drew ?_ | refine blk_alloc ?_ _)); exact BK80001.out)) : gb80003 ≠ gb80001)); clear HO_3; clear BK80001; clear HB; have HO_3 := n0_; have BK80001 := n1_; have HB := n2_; have BK80003 := n3_; have GW80003 := n4_; have GE80003 := n5_; have NB80001_80003 := n6_; have NB80003_80001 := n7_; clear n0_ n1_ n2_ n3_ n4_ n5_ n6_ n7_; clear hb hbox hg; have hnb15 := NB80003_80001.out; have hnc15 := NB80001_80003.out; have hcz16_0 : w14.cell? ⟨gb80003, 0, none⟩ = some (.int .i64 0) := (blk_cell BK80003.out 0).trans rfl; have hcz16_1 : w14.cell? ⟨gb80003, 1, none⟩ = some (.int .i64 0) := (blk_cell BK80003.out 1).trans rfl; have hcz16_2 : w14.cell? ⟨gb80003, 2, none⟩ = some (.int .i64 0) := (blk_cell BK80003.out 2).trans rfl; have hcz16_3 : w14.cell? ⟨gb80003, 3, none⟩ = some (.int .i64 0) := (blk_cell BK80003.out 3).trans rfl; have hcz16_4 : w14.cell? ⟨gb80003, 4, none⟩ = some (.bool false) := (blk_cell BK80003.out 4).trans rfl; have hfz16_0 := blk_frozen BK80003.out 0; have hfz16_1 := blk_frozen BK80003.out 1; have hfz16_2 := blk_frozen BK80003.out 2; have hfz16_3 := blk_frozen BK80003.out 3; have hfz16_4 := blk_frozen BK80003.out 4))
       go_roundg k1
       case measure => have := HK1.out; omega
       case rel => exact ⟨(x3_1), (wrap64 (x9_1 + 1)), (by first | rfl | (simp; done) | (simp [*]; done)), H', ⟨by have := HK1.out; omega⟩, ⟨by (with_reducible repeat (first | apply Kd.R_alloc | apply Kd.R_drewN | apply Kd.R_drew)); exact Kd.R_mono (Kd.R_far (p := ⟨gb80003, 4, none⟩) (Kd.R_far (p := ⟨gb80003, 3, none⟩) (Kd.R_far (p := ⟨gb80003, 2, none⟩) (Kd.R_far (p := ⟨gb80003, 1, none⟩) (Kd.R_far (p := ⟨gb80003, 0, none⟩) (Kd.R_types HO_3.out BK80003.out (by decide)) (fun _ hk => hk.2) (.int .i64 ((rd_T90 l0_1 x9_1).f0))) (fun _ hk => hk.2) (.int .i64 ((rd_T90 l0_1 x9_1).f1))) (fun _ hk => hk.2) (.int .i64 ((rd_T90 l0_1 x9_1).f2))) (fun _ hk => hk.2) (.int .i64 ((rd_T90 l0_1 x9_1).f3))) (fun _ hk => hk.2) (.bool false)) (fun _ hk => trivial)⟩, ⟨by (with_reducible repeat (first | refine blk_drewN ?_ _ | refine blk_drew ?_ | refine blk_alloc ?_ _)); refine blk_far ?_ NB80001_80003.out _; (with_reducible repeat (first | refine blk_drewN ?_ _ | refine blk_drew ?_ | refine blk_alloc ?_ _)); refine blk_far ?_ NB80001_80003.out _; (with_reducible repeat (first | refine blk_drewN ?_ _ | refine blk_drew ?_ | refine blk_alloc ?_ _)); refine blk_far ?_ NB80001_80003.out _; (with_reducible repeat (first | refine blk_drewN ?_ _ | refine blk_drew ?_ | refine blk_alloc ?_ _)); refine blk_far ?_ NB80001_80003.out _; (with_reducible repeat (first | refine blk_drewN ?_ _ | refine blk_drew ?_ | refine blk_alloc ?_ _)); refine blk_far ?_ NB80001_80003.out _; (with_reducible repeat (first | refine blk_drewN ?_ _ | refine blk_drew ?_ | refine blk_alloc ?_ _)); exact BK80001.out⟩, ⟨by repeat (first | (with_reducible first | exact HB.out | apply below_alloc | apply pw_below_drewN | apply below_drew1 | refine below_set ?_ GE80001.out | refine below_set ?_ GE80003.out) | exact HB.out)⟩⟩
     ·rw [if_neg c6] at H
      exact absurd H (by simp)
    ·rw [if_neg c5] at H
     exact absurd H (by simp)
   ·rw [if_neg c4] at H
    have c4b0 : decide (x9_1 < (l0_1.length : Int)) = false := decide_eq_false c4
    clear c4
    obtain rfl := Option.some.inj H
    go_wp2
    go_ret
    exact ⟨_, by first | rfl | (simp [errW_none, errW_some] <;> rfl) | (simp [*, errW_none, errW_some] <;> rfl), by (with_reducible repeat (first | apply Kd.R_alloc | apply Kd.R_drewN | apply Kd.R_drew)); exact HO_3.out, by repeat (first | (with_reducible first | exact HB.out | apply below_alloc | apply pw_below_drewN | apply below_drew1 | refine below_set ?_ GE80001.out) | exact HB.out)⟩

end Go.Proofs.Ytodfnelilhjoeaa.Pr

namespace Go.Proofs.Ytodfnelilhjoeaa.Pr
open Go.RowKit Go.Proofs.YtodfnelilhjoeaaW.PrintWords Go.Proofs.YtodfnelilhjoeaaW.PrintLast Go.Proofs.YtodfnelilhjoeaaW.PrintMore
attribute [local go_sem] max2_int min2_int max_two min_two max_three min_three max_four min_four
set_option linter.unusedVariables false
set_option linter.unusedSimpArgs false

/-! ### impl_CountChoices: function 105 -/
mutual
def impl_CountChoices.l0 : Nat → Int → List Int → Int → Int → List (S116) → List (S90) → Int → Option (Int)
 | 0, _, _, _, _, _, _, _ => none
 | k + 1, x3, x11, x12, x13, x105002000, x105002001, x105002002 => if x13 < x12 then (if 0 ≤ x13 then (if x13 < (x11.length : Int) then (if 0 ≤ (rd x11 x13) then (if (rd x11 x13) < (x105002001.length : Int) then (impl_CountChoices.l0 k (wrap64 (x3 * (wrap64 ((wrap64 (((rd_T90 x105002001 (rd x11 x13)).f3) - ((rd_T90 x105002001 (rd x11 x13)).f2))) + 1)))) x11 x12 (wrap64 (x13 + 1)) x105002000 x105002001 x105002002) else (none)) else (none)) else (none)) else (none)) else (impl_CountChoices.l1 k x3 1 x105002000 x105002001 x105002002)
def impl_CountChoices.l1 : Nat → Int → Int → List (S116) → List (S90) → Int → Option (Int)
 | 0, _, _, _, _, _ => none
 | k + 1, x3, x6, x105002000, x105002001, x105002002 => if x6 ≤ 3 then ((impl_watcher.f x105002000 x105002001 x105002002 x6).bind fun t105009 => (if t105009 ≥ 0 then (impl_CountChoices.l1 k (wrap64 (x3 * 2)) (wrap64 (x6 + 1)) x105002000 x105002001 x105002002) else (impl_CountChoices.l1 k x3 (wrap64 (x6 + 1)) x105002000 x105002001 x105002002))) else (some x3)
end
def impl_CountChoices.f (k : Nat) (l0_0 : List (S116)) (l0_1 : List (S90)) (a0_2 : Int) : Option (Int) := (impl_ShowOk.f l0_0 l0_1 a0_2).bind fun t105002 => (if t105002 = true then ((impl_freeTies.f k l0_0 l0_1 a0_2).bind fun t105003 => (impl_CountChoices.l0 k 1 t105003 (t105003.length : Int) 0 l0_0 l0_1 a0_2)) else (some 0))
set_option maxHeartbeats 8000000 in
set_option maxRecDepth 100000 in
theorem impl_CountChoices.calls (k : Nat) (A0_0 : Option Addr) (c0_0 : Nat) (l0_0 : List (S116)) (A0_1 : Option Addr) (c0_1 : Nat) (l0_1 : List (S90)) (a0_2 : Int) (r : Int) (w : World) (hr0_0 : Kd.C k116 w A0_0 l0_0.length l0_0) (hc0_0 : l0_0.length ≤ c0_0) (hr0_1 : Kd.C k90 w A0_1 l0_1.length l0_1) (hc0_1 : l0_1.length ≤ c0_1) (h : impl_CountChoices.f k l0_0 l0_1 a0_2 = some r) :
  Calls Try.prog 105 #[.agg #[.slice A0_0 l0_0.length c0_0, .slice A0_1 l0_1.length c0_1, .int .i64 a0_2]] w fun e w' => e = .returned (.int .i64 r) ∧ Below w.heap.size w w' := by
 have hu35 := Try.underlying35
 have HR0_0 := Aside0.mk hr0_0; have HC0_0 := Aside0.mk hc0_0; clear hr0_0 hc0_0; have HR0_1 := Aside0.mk hr0_1; have HC0_1 := Aside0.mk hc0_1; clear hr0_1 hc0_1
 have HB := Aside0.mk (Below.refl w.heap.size w)
 have H : ((impl_ShowOk.f l0_0 l0_1 a0_2).bind fun t105002 => (if t105002 = true then ((impl_freeTies.f k l0_0 l0_1 a0_2).bind fun t105003 => (impl_CountChoices.l0 k 1 t105003 (t105003.length : Int) 0 l0_0 l0_1 a0_2)) else (some 0))) = some r := h
 clear h
 replace H := Option.bind_eq_some_iff.mp H
 obtain ⟨t105002, A20, H⟩ := H
 replace H : (if t105002 = true then ((impl_freeTies.f k l0_0 l0_1 a0_2).bind fun t105003 => (impl_CountChoices.l0 k 1 t105003 (t105003.length : Int) 0 l0_0 l0_1 a0_2)) else (some 0)) = some r := H
 have A2 := Aside0.mk A20; clear A20
 by_cases c3 : t105002 = true
 ·subst c3
  have H1 : ((impl_freeTies.f k l0_0 l0_1 a0_2).bind fun t105003 => (impl_CountChoices.l0 k 1 t105003 (t105003.length : Int) 0 l0_0 l0_1 a0_2)) = some r := by rw [if_pos rfl] at H; exact H
  clear H
  have H := H1
  clear H1
  replace H := Option.bind_eq_some_iff.mp H
  obtain ⟨t105003, A40, H⟩ := H
  replace H : (impl_CountChoices.l0 k 1 t105003 (t105003.length : Int) 0 l0_0 l0_1 a0_2) = some r := H
  have A4 := Aside0.mk A40; clear A40
  have H' := Aside0.mk H
  clear H
  go_enter Try.func105, Try.ntmps105
  go_wp2_with (first | ((with_reducible refine gate_dst (N := 1) rfl ?_); refine box_event ?hg (N := 1) ?hd (cs := #[.slice A0_0 l0_0.length c0_0, .slice A0_1 l0_1.length c0_1, .int .i64 a0_2]) (t := 35) ?hr ?_; (case hd => rfl); (case hg => rfl); (case hr => first | (go_simp; done) | (go_simp; rfl)); intro gb105001 hg w5 hbox hb; have n0_ := Aside0.mk (below_step (by repeat (first | (with_reducible first | exact HB.out | apply below_alloc | apply pw_below_drewN | apply below_drew1) | exact HB.out)) hb); have n1_ := Aside0.mk (hbox); have n2_ := Aside0.mk ((by rw [hg]; exact (below_size (by repeat (first | (with_reducible first | exact HB.out | apply below_alloc | apply pw_below_drewN | apply below_drew1) | exact HB.out))) : w.heap.size ≤ gb105001)); have n3_ := Aside0.mk ((by rw [hg]; exact (below_size (by repeat (first | (with_reducible first | exact HB.out | apply below_alloc | apply pw_below_drewN | apply below_drew1) | exact HB.out))) : w.heap.size ≤ gb105001)); clear HB; have HB := n0_; have BK105001 := n1_; have GW105001 := n2_; have GE105001 := n3_; clear n0_ n1_ n2_ n3_; clear hb hbox hg; have hcz6_0 : w5.cell? ⟨gb105001, 0, none⟩ = some (.slice A0_0 l0_0.length c0_0) := (blk_cell BK105001.out 0).trans rfl; have hcz6_1 : w5.cell? ⟨gb105001, 1, none⟩ = some (.slice A0_1 l0_1.length c0_1) := (blk_cell BK105001.out 1).trans rfl; have hcz6_2 : w5.cell? ⟨gb105001, 2, none⟩ = some (.int .i64 a0_2) := (blk_cell BK105001.out 2).trans rfl; have hfz6_0 := blk_frozen BK105001.out 0; have hfz6_1 := blk_frozen BK105001.out 1; have hfz6_2 := blk_frozen BK105001.out 2) | (go_at_call 72; (with_reducible refine (impl_ShowOk.calls _ _ l0_0 _ _ l0_1 a0_2 true _ ?side1 ?side2 ?side3 ?side4 A2.out).mono ?_); (case side1 => repeat (first | exact (Kd.C_below HR0_0.out HB.out) | (with_reducible refine Kd.C_alloc ?_ _) | (with_reducible refine Kd.C_drewN ?_ _) | (with_reducible refine Kd.C_drew ?_))); (case side2 => exact HC0_0.out); (case side3 => repeat (first | exact (Kd.C_below HR0_1.out HB.out) | (with_reducible refine Kd.C_alloc ?_ _) | (with_reducible refine Kd.C_drewN ?_ _) | (with_reducible refine Kd.C_drew ?_))); (case side4 => exact HC0_1.out); rintro e w7 ⟨rfl, hb⟩; have n0_ := Aside0.mk (blk_below (g := gb105001) (o := .cells #[.slice A0_0 l0_0.length c0_0, .slice A0_1 l0_1.length c0_1, .int .i64 a0_2] 35 (0, 0)) (by (with_reducible repeat (first | refine blk_drewN ?_ _ | refine blk_drew ?_ | refine blk_alloc ?_ _)); exact BK105001.out) hb); have n1_ := Aside0.mk (below_step (by repeat (first | (with_reducible first | exact HB.out | apply below_alloc | apply pw_below_drewN | apply below_drew1 | refine below_set ?_ GE105001.out) | exact HB.out)) hb); clear BK105001; clear HB; have BK105001 := n0_; have HB := n1_; clear n0_ n1_; (try clear hb); (try clear hb2); (try clear hk); (try clear hi); have hcz8_0 : w7.cell? ⟨gb105001, 0, none⟩ = some (.slice A0_0 l0_0.length c0_0) := (blk_cell BK105001.out 0).trans rfl; have hcz8_1 : w7.cell? ⟨gb105001, 1, none⟩ = some (.slice A0_1 l0_1.length c0_1) := (blk_cell BK105001.out 1).trans rfl; have hcz8_2 : w7.cell? ⟨gb105001, 2, none⟩ = some (.int .i64 a0_2) := (blk_cell BK105001.out 2).trans rfl; have hfz8_0 := blk_frozen BK105001.out 0; have hfz8_1 := blk_frozen BK105001.out 1; have hfz8_2 := blk_frozen BK105001.out 2) | (go_at_call 80; (with_reducible refine (impl_freeTies.calls k _ _ l0_0 _ _ l0_1 a0_2 t105003 _ ?side1 ?side2 ?side3 ?side4 A4.out).mono ?_); (case side1 => repeat (first | exact (Kd.C_below HR0_0.out HB.out) | (with_reducible refine Kd.C_alloc ?_ _) | (with_reducible refine Kd.C_drewN ?_ _) | (with_reducible refine Kd.C_drew ?_))); (case side2 => exact HC0_0.out); (case side3 => repeat (first | exact (Kd.C_below HR0_1.out HB.out) | (with_reducible refine Kd.C_alloc ?_ _) | (with_reducible refine Kd.C_drewN ?_ _) | (with_reducible refine Kd.C_drew ?_))); (case side4 => exact HC0_1.out); rintro e w9 ⟨v105004, rfl, ho0, hb⟩; have n0_ := Aside0.mk (Kd.R_lower ho0 (below_size (by repeat (first | (with_reducible first | exact HB.out | apply below_alloc | apply pw_below_drewN | apply below_drew1 | refine below_set ?_ GE105001.out) | exact HB.out)))); have n1_ := Aside0.mk (blk_below (g := gb105001) (o := .cells #[.slice A0_0 l0_0.length c0_0, .slice A0_1 l0_1.length c0_1, .int .i64 a0_2] 35 (0, 0)) (by (with_reducible repeat (first | refine blk_drewN ?_ _ | refine blk_drew ?_ | refine blk_alloc ?_ _)); exact BK105001.out) hb); have n2_ := Aside0.mk (below_step (by repeat (first | (with_reducible first | exact HB.out | apply below_alloc | apply pw_below_drewN | apply below_drew1 | refine below_set ?_ GE105001.out) | exact HB.out)) hb); clear BK105001; clear HB; have HO105005 := n0_; have BK105001 := n1_; have HB := n2_; clear n0_ n1_ n2_; (try clear hb); (try clear hb2); (try clear hk); (try clear hi); (try clear ho0); obtain ⟨Ao10, co10, eo10⟩ := Kd.R_slice HO105005.out; subst eo10))
  repeat (go_quiet (first | ((with_reducible refine gate_dst (N := 1) rfl ?_); refine box_event ?hg (N := 1) ?hd (cs := #[.slice A0_0 l0_0.length c0_0, .slice A0_1 l0_1.length c0_1, .int .i64 a0_2]) (t := 35) ?hr ?_; (case hd => rfl); (case hg => rfl); (case hr => first | (go_simp; done) | (go_simp; rfl)); intro gb105001 hg w5 hbox hb; have n0_ := Aside0.mk (below_step (by repeat (first | (with_reducible first | exact HB.out | apply below_alloc | apply pw_below_drewN | apply below_drew1) | exact HB.out)) hb); have n1_ := Aside0.mk (hbox); have n2_ := Aside0.mk ((by rw [hg]; exact (below_size (by repeat (first | (with_reducible first | exact HB.out | apply below_alloc | apply pw_below_drewN | apply below_drew1) | exact HB.out))) : w.heap.size ≤ gb105001)); have n3_ := Aside0.mk ((by rw [hg]; exact (below_size (by repeat (first | (with_reducible first | exact HB.out | apply below_alloc | apply pw_below_drewN | apply below_drew1) | exact HB.out))) : w.heap.size ≤ gb105001)); clear HB; have HB := n0_; have BK105001 := n1_; have GW105001 := n2_; have GE105001 := n3_; clear n0_ n1_ n2_ n3_; clear hb hbox hg; have hcz6_0 : w5.cell? ⟨gb105001, 0, none⟩ = some (.slice A0_0 l0_0.length c0_0) := (blk_cell BK105001.out 0).trans rfl; have hcz6_1 : w5.cell? ⟨gb105001, 1, none⟩ = some (.slice A0_1 l0_1.length c0_1) := (blk_cell BK105001.out 1).trans rfl; have hcz6_2 : w5.cell? ⟨gb105001, 2, none⟩ = some (.int .i64 a0_2) := (blk_cell BK105001.out 2).trans rfl; have hfz6_0 := blk_frozen BK105001.out 0; have hfz6_1 := blk_frozen BK105001.out 1; have hfz6_2 := blk_frozen BK105001.out 2) | (go_at_call 72; (with_reducible refine (impl_ShowOk.calls _ _ l0_0 _ _ l0_1 a0_2 true _ ?side1 ?side2 ?side3 ?side4 A2.out).mono ?_); (case side1 => repeat (first | exact (Kd.C_below HR0_0.out HB.out) | (with_reducible refine Kd.C_alloc ?_ _) | (with_reducible refine Kd.C_drewN ?_ _) | (with_reducible refine Kd.C_drew ?_))); (case side2 => exact HC0_0.out); (case side3 => repeat (first | exact (Kd.C_below HR0_1.out HB.out) | (with_reducible refine Kd.C_alloc ?_ _) | (with_reducible refine Kd.C_drewN ?_ _) | (with_reducible refine Kd.C_drew ?_))); (case side4 => exact HC0_1.out); rintro e w7 ⟨rfl, hb⟩; have n0_ := Aside0.mk (blk_below (g := gb105001) (o := .cells #[.slice A0_0 l0_0.length c0_0, .slice A0_1 l0_1.length c0_1, .int .i64 a0_2] 35 (0, 0)) (by (with_reducible repeat (first | refine blk_drewN ?_ _ | refine blk_drew ?_ | refine blk_alloc ?_ _)); exact BK105001.out) hb); have n1_ := Aside0.mk (below_step (by repeat (first | (with_reducible first | exact HB.out | apply below_alloc | apply pw_below_drewN | apply below_drew1 | refine below_set ?_ GE105001.out) | exact HB.out)) hb); clear BK105001; clear HB; have BK105001 := n0_; have HB := n1_; clear n0_ n1_; (try clear hb); (try clear hb2); (try clear hk); (try clear hi); have hcz8_0 : w7.cell? ⟨gb105001, 0, none⟩ = some (.slice A0_0 l0_0.length c0_0) := (blk_cell BK105001.out 0).trans rfl; have hcz8_1 : w7.cell? ⟨gb105001, 1, none⟩ = some (.slice A0_1 l0_1.length c0_1) := (blk_cell BK105001.out 1).trans rfl; have hcz8_2 : w7.cell? ⟨gb105001, 2, none⟩ = some (.int .i64 a0_2) := (blk_cell BK105001.out 2).trans rfl; have hfz8_0 := blk_frozen BK105001.out 0; have hfz8_1 := blk_frozen BK105001.out 1; have hfz8_2 := blk_frozen BK105001.out 2) | (go_at_call 80; (with_reducible refine (impl_freeTies.calls k _ _ l0_0 _ _ l0_1 a0_2 t105003 _ ?side1 ?side2 ?side3 ?side4 A4.out).mono ?_); (case side1 => repeat (first | exact (Kd.C_below HR0_0.out HB.out) | (with_reducible refine Kd.C_alloc ?_ _) | (with_reducible refine Kd.C_drewN ?_ _) | (with_reducible refine Kd.C_drew ?_))); (case side2 => exact HC0_0.out); (case side3 => repeat (first | exact (Kd.C_below HR0_1.out HB.out) | (with_reducible refine Kd.C_alloc ?_ _) | (with_reducible refine Kd.C_drewN ?_ _) | (with_reducible refine Kd.C_drew ?_))); (case side4 => exact HC0_1.out); rintro e w9 ⟨v105004, rfl, ho0, hb⟩; have n0_ := Aside0.mk (Kd.R_lower ho0 (below_size (by repeat (first | (with_reducible first | exact HB.out | apply below_alloc | apply pw_below_drewN | apply below_drew1 | refine below_set ?_ GE105001.out) | exact HB.out)))); have n1_ := Aside0.mk (blk_below (g := gb105001) (o := .cells #[.slice A0_0 l0_0.length c0_0, .slice A0_1 l0_1.length c0_1, .int .i64 a0_2] 35 (0, 0)) (by (with_reducible repeat (first | refine blk_drewN ?_ _ | refine blk_drew ?_ | refine blk_alloc ?_ _)); exact BK105001.out) hb); have n2_ := Aside0.mk (below_step (by repeat (first | (with_reducible first | exact HB.out | apply below_alloc | apply pw_below_drewN | apply below_drew1 | refine below_set ?_ GE105001.out) | exact HB.out)) hb); clear BK105001; clear HB; have HO105005 := n0_; have BK105001 := n1_; have HB := n2_; clear n0_ n1_ n2_; (try clear hb); (try clear hb2); (try clear hk); (try clear hi); (try clear ho0); obtain ⟨Ao10, co10, eo10⟩ := Kd.R_slice HO105005.out; subst eo10)); try go_wp2_with (first | ((with_reducible refine gate_dst (N := 1) rfl ?_); refine box_event ?hg (N := 1) ?hd (cs := #[.slice A0_0 l0_0.length c0_0, .slice A0_1 l0_1.length c0_1, .int .i64 a0_2]) (t := 35) ?hr ?_; (case hd => rfl); (case hg => rfl); (case hr => first | (go_simp; done) | (go_simp; rfl)); intro gb105001 hg w5 hbox hb; have n0_ := Aside0.mk (below_step (by repeat (first | (with_reducible first | exact HB.out | apply below_alloc | apply pw_below_drewN | apply below_drew1) | exact HB.out)) hb); have n1_ := Aside0.mk (hbox); have n2_ := Aside0.mk ((by rw [hg]; exact (below_size (by repeat (first | (with_reducible first | exact HB.out | apply below_alloc | apply pw_below_drewN | apply below_drew1) | exact HB.out))) : w.heap.size ≤ gb105001)); have n3_ := Aside0.mk ((by rw [hg]; exact (below_size (by repeat (first | (with_reducible first | exact HB.out | apply below_alloc | apply pw_below_drewN | apply below_drew1) | exact HB.out))) : w.heap.size ≤ gb105001)); clear HB; have HB := n0_; have BK105001 := n1_; have GW105001 := n2_; have GE105001 := n3_; clear n0_ n1_ n2_ n3_; clear hb hbox hg; have hcz6_0 : w5.cell? ⟨gb105001, 0, none⟩ = some (.slice A0_0 l0_0.length c0_0) := (blk_cell BK105001.out 0).trans rfl; have hcz6_1 : w5.cell? ⟨gb105001, 1, none⟩ = some (.slice A0_1 l0_1.length c0_1) := (blk_cell BK105001.out 1).trans rfl; have hcz6_2 : w5.cell? ⟨gb105001, 2, none⟩ = some (.int .i64 a0_2) := (blk_cell BK105001.out 2).trans rfl; have hfz6_0 := blk_frozen BK105001.out 0; have hfz6_1 := blk_frozen BK105001.out 1; have hfz6_2 := blk_frozen BK105001.out 2) | (go_at_call 72; (with_reducible refine (impl_ShowOk.calls _ _ l0_0 _ _ l0_1 a0_2 true _ ?side1 ?side2 ?side3 ?side4 A2.out).mono ?_); (case side1 => repeat (first | exact (Kd.C_below HR0_0.out HB.out) | (with_reducible refine Kd.C_alloc ?_ _) | (with_reducible refine Kd.C_drewN ?_ _) | (with_reducible refine Kd.C_drew ?_))); (case side2 => exact HC0_0.out); (case side3 => repeat (first | exact (Kd.C_below HR0_1.out HB.out) | (with_reducible refine Kd.C_alloc ?_ _) | (with_reducible refine Kd.C_drewN ?_ _) | (with_reducible refine Kd.C_drew ?_))); (case side4 => exact HC0_1.out); rintro e w7 ⟨rfl, hb⟩; have n0_ := Aside0.mk (blk_below (g := gb105001) (o := .cells #[.slice A0_0 l0_0.length c0_0, .slice A0_1 l0_1.length c0_1, .int .i64 a0_2] 35 (0, 0)) (by (with_reducible repeat (first | refine blk_drewN ?_ _ | refine blk_drew ?_ | refine blk_alloc ?_ _)); exact BK105001.out) hb); have n1_ := Aside0.mk (below_step (by repeat (first | (with_reducible first | exact HB.out | apply below_alloc | apply pw_below_drewN | apply below_drew1 | refine below_set ?_ GE105001.out) | exact HB.out)) hb); clear BK105001; clear HB; have BK105001 := n0_; have HB := n1_; clear n0_ n1_; (try clear hb); (try clear hb2); (try clear hk); (try clear hi); have hcz8_0 : w7.cell? ⟨gb105001, 0, none⟩ = some (.slice A0_0 l0_0.length c0_0) := (blk_cell BK105001.out 0).trans rfl; have hcz8_1 : w7.cell? ⟨gb105001, 1, none⟩ = some (.slice A0_1 l0_1.length c0_1) := (blk_cell BK105001.out 1).trans rfl; have hcz8_2 : w7.cell? ⟨gb105001, 2, none⟩ = some (.int .i64 a0_2) := (blk_cell BK105001.out 2).trans rfl; have hfz8_0 := blk_frozen BK105001.out 0; have hfz8_1 := blk_frozen BK105001.out 1; have hfz8_2 := blk_frozen BK105001.out 2) | (go_at_call 80; (with_reducible refine (impl_freeTies.calls k _ _ l0_0 _ _ l0_1 a0_2 t105003 _ ?side1 ?side2 ?side3 ?side4 A4.out).mono ?_); (case side1 => repeat (first | exact (Kd.C_below HR0_0.out HB.out) | (with_reducible refine Kd.C_alloc ?_ _) | (with_reducible refine Kd.C_drewN ?_ _) | (with_reducible refine Kd.C_drew ?_))); (case side2 => exact HC0_0.out); (case side3 => repeat (first | exact (Kd.C_below HR0_1.out HB.out) | (with_reducible refine Kd.C_alloc ?_ _) | (with_reducible refine Kd.C_drewN ?_ _) | (with_reducible refine Kd.C_drew ?_))); (case side4 => exact HC0_1.out); rintro e w9 ⟨v105004, rfl, ho0, hb⟩; have n0_ := Aside0.mk (Kd.R_lower ho0 (below_size (by repeat (first | (with_reducible first | exact HB.out | apply below_alloc | apply pw_below_drewN | apply below_drew1 | refine below_set ?_ GE105001.out) | exact HB.out)))); have n1_ := Aside0.mk (blk_below (g := gb105001) (o := .cells #[.slice A0_0 l0_0.length c0_0, .slice A0_1 l0_1.length c0_1, .int .i64 a0_2] 35 (0, 0)) (by (with_reducible repeat (first | refine blk_drewN ?_ _ | refine blk_drew ?_ | refine blk_alloc ?_ _)); exact BK105001.out) hb); have n2_ := Aside0.mk (below_step (by repeat (first | (with_reducible first | exact HB.out | apply below_alloc | apply pw_below_drewN | apply below_drew1 | refine below_set ?_ GE105001.out) | exact HB.out)) hb); clear BK105001; clear HB; have HO105005 := n0_; have BK105001 := n1_; have HB := n2_; clear n0_ n1_ n2_; (try clear hb); (try clear hb2); (try clear hk); (try clear hi); (try clear ho0); obtain ⟨Ao10, co10, eo10⟩ := Kd.R_slice HO105005.out; subst eo10)))
  go_loopg [3, 13] k (fun kq v3 v13 w' => ∃ (x3_1 : Int) (x13_1 : Int), v3 = .int .i64 x3_1 ∧ v13 = .int .i64 x13_1 ∧ Aside0 (impl_CountChoices.l0 kq x3_1 t105003 (t105003.length : Int) x13_1 l0_0 l0_1 a0_2 = some r) ∧ Aside0 (kq ≤ k) ∧ Aside0 (Kd.R (Kd.int .i64) 3 w' w.heap.size (fun _ => True) (.slice Ao10 t105003.length co10) t105003) ∧ Aside0 (w'.heap[gb105001]? = some (.cells #[(.slice A0_0 l0_0.length c0_0), (.slice A0_1 l0_1.length c0_1), .int .i64 a0_2] 35 (0, 0))) ∧ Aside0 (Below w.heap.size w w'))
  case atStart => exact ⟨(1), (0), (by first | rfl | (simp; done) | (simp [*]; done)), (by first | rfl | (simp; done) | (simp [*]; done)), H', ⟨Nat.le_refl _⟩, ⟨by (with_reducible repeat (first | apply Kd.R_alloc | apply Kd.R_drewN | apply Kd.R_drew)); exact HO105005.out⟩, ⟨by (with_reducible repeat (first | refine blk_drewN ?_ _ | refine blk_drew ?_ | refine blk_alloc ?_ _)); exact BK105001.out⟩, ⟨by repeat (first | (with_reducible first | exact HB.out | apply below_alloc | apply pw_below_drewN | apply below_drew1 | refine below_set ?_ GE105001.out) | exact HB.out)⟩⟩
  case round =>
   clear H'
   try clear c1
   try clear p2
   try clear c3
   try clear c10
   try clear hcz6_0
   try clear hcz6_1
   try clear hcz6_2
   try clear hcz8_0
   try clear hcz8_1
   try clear hcz8_2
   try clear hfz6_0
   try clear hfz6_1
   try clear hfz6_2
   try clear hfz8_0
   try clear hfz8_1
   try clear hfz8_2
   obtain ⟨x3_1, x13_1, rfl, rfl, HA, HK1, HO_11, BK105001, HB⟩ := hrel
   cases gk with
   | zero => exact absurd HA.out (by simp [impl_CountChoices.l0])
   | succ k1 =>
    have H := HA.out
    clear HA
    simp only [impl_CountChoices.l0] at H
    by_cases c11 : x13_1 < (t105003.length : Int)
    ·rw [if_pos c11] at H
     have c11b0 : decide (x13_1 < (t105003.length : Int)) = true := decide_eq_true c11
     clear c11
     by_cases c12 : 0 ≤ x13_1
     ·rw [if_pos c12] at H
      have c12b0 : decide (0 ≤ x13_1) = true := decide_eq_true c12
      clear c12
      by_cases c13 : x13_1 < (t105003.length : Int)
      ·rw [if_pos c13] at H
       have c13b0 : decide (x13_1 < (t105003.length : Int)) = true := decide_eq_true c13
       clear c13
       by_cases c14 : 0 ≤ (rd t105003 x13_1)
       ·rw [if_pos c14] at H
        have c14b0 : decide (0 ≤ (rd t105003 x13_1)) = true := decide_eq_true c14
        clear c14
        by_cases c15 : (rd t105003 x13_1) < (l0_1.length : Int)
        ·rw [if_pos c15] at H
         have c15b0 : decide ((rd t105003 x13_1) < (l0_1.length : Int)) = true := decide_eq_true c15
         clear c15
         have H' := Aside0.mk H
         clear H
         have p105006 : 0 ≤ (x13_1 : Int) := of_decide_eq_true (by first | (with_reducible assumption) | assumption)
         have q105006 : x13_1 < (t105003.length : Int) := of_decide_eq_true (by first | (with_reducible assumption) | assumption)
         obtain ⟨ad105006, e105006, hx105006_0⟩ := Kd.at_int (Kd.R_reads' HO_11.out).2.2 x13_1 p105006 q105006
         cases e105006
         replace p105006 := eq_true p105006
         replace q105006 := eq_true q105006
         have hcz16_0 : wr.cell? ⟨gb105001, 0, none⟩ = some (.slice A0_0 l0_0.length c0_0) := (blk_cell BK105001.out 0).trans rfl
         have hcz16_1 : wr.cell? ⟨gb105001, 1, none⟩ = some (.slice A0_1 l0_1.length c0_1) := (blk_cell BK105001.out 1).trans rfl
         have hcz16_2 : wr.cell? ⟨gb105001, 2, none⟩ = some (.int .i64 a0_2) := (blk_cell BK105001.out 2).trans rfl
         have hfz16_0 := blk_frozen BK105001.out 0
         have hfz16_1 := blk_frozen BK105001.out 1
         have hfz16_2 := blk_frozen BK105001.out 2
         have p105007 : 0 ≤ ((rd t105003 x13_1) : Int) := of_decide_eq_true (by first | (with_reducible assumption) | assumption)
         have q105007 : (rd t105003 x13_1) < (l0_1.length : Int) := of_decide_eq_true (by first | (with_reducible assumption) | assumption)
         obtain ⟨ad105007, e105007, hx105007_0, hx105007_1, hx105007_2, hx105007_3, hx105007_4⟩ := at_T90 HR0_1.out (rd t105003 x13_1) p105007 q105007
         cases e105007
         replace hx105007_0 := (HB.out.cell (World.block_lt_of_cell? w _ hx105007_0)).trans hx105007_0
         replace hx105007_1 := (HB.out.cell (World.block_lt_of_cell? w _ hx105007_1)).trans hx105007_1
         replace hx105007_2 := (HB.out.cell (World.block_lt_of_cell? w _ hx105007_2)).trans hx105007_2
         replace hx105007_3 := (HB.out.cell (World.block_lt_of_cell? w _ hx105007_3)).trans hx105007_3
         replace hx105007_4 := (HB.out.cell (World.block_lt_of_cell? w _ hx105007_4)).trans hx105007_4
         replace p105007 := eq_true p105007
         replace q105007 := eq_true q105007
         have p105008 : 0 ≤ ((rd t105003 x13_1) : Int) := of_decide_eq_true (by first | (with_reducible assumption) | assumption)
         have q105008 : (rd t105003 x13_1) < (l0_1.length : Int) := of_decide_eq_true (by first | (with_reducible assumption) | assumption)
         obtain ⟨ad105008, e105008, hx105008_0, hx105008_1, hx105008_2, hx105008_3, hx105008_4⟩ := at_T90 HR0_1.out (rd t105003 x13_1) p105008 q105008
         obtain rfl : ad105007 = ad105008 := (by injection e105008)
         replace hx105008_0 := (HB.out.cell (World.block_lt_of_cell? w _ hx105008_0)).trans hx105008_0
         replace hx105008_1 := (HB.out.cell (World.block_lt_of_cell? w _ hx105008_1)).trans hx105008_1
         replace hx105008_2 := (HB.out.cell (World.block_lt_of_cell? w _ hx105008_2)).trans hx105008_2
         replace hx105008_3 := (HB.out.cell (World.block_lt_of_cell? w _ hx105008_3)).trans hx105008_3
         replace hx105008_4 := (HB.out.cell (World.block_lt_of_cell? w _ hx105008_4)).trans hx105008_4
         replace p105008 := eq_true p105008
         replace q105008 := eq_true q105008
         go_wp2
         repeat (go_quiet (fail); try go_wp2)
         go_roundg k1
         case measure => have := HK1.out; omega
         case rel => exact ⟨(wrap64 (x3_1 * (wrap64 ((wrap64 (((rd_T90 l0_1 (rd t105003 x13_1)).f3) - ((rd_T90 l0_1 (rd t105003 x13_1)).f2))) + 1)))), (wrap64 (x13_1 + 1)), (by first | rfl | (simp; done) | (simp [*]; done)), (by first | rfl | (simp; done) | (simp [*]; done)), H', ⟨by have := HK1.out; omega⟩, ⟨by (with_reducible repeat (first | apply Kd.R_alloc | apply Kd.R_drewN | apply Kd.R_drew)); exact HO_11.out⟩, ⟨by (with_reducible repeat (first | refine blk_drewN ?_ _ | refine blk_drew ?_ | refine blk_alloc ?_ _)); exact BK105001.out⟩, ⟨by repeat (first | (with_reducible first | exact HB.out | apply below_alloc | apply pw_below_drewN | apply below_drew1 | refine below_set ?_ GE105001.out) | exact HB.out)⟩⟩
        ·rw [if_neg c15] at H
         exact absurd H (by simp)
       ·rw [if_neg c14] at H
        exact absurd H (by simp)
      ·rw [if_neg c13] at H
       exact absurd H (by simp)
     ·rw [if_neg c12] at H
      exact absurd H (by simp)
    ·rw [if_neg c11] at H
     have c11b0 : decide (x13_1 < (t105003.length : Int)) = false := decide_eq_false c11
     clear c11
     have H' := Aside0.mk H
     clear H
     go_wp2
     repeat (go_quiet (fail); try go_wp2)
     go_loopg [3, 6] k1 (fun kq v3 v6 w' => ∃ (x3_2 : Int) (x6_2 : Int), v3 = .int .i64 x3_2 ∧ v6 = .int .i64 x6_2 ∧ Aside0 (impl_CountChoices.l1 kq x3_2 x6_2 l0_0 l0_1 a0_2 = some r) ∧ Aside0 (kq ≤ k1) ∧ Aside0 (w'.heap[gb105001]? = some (.cells #[(.slice A0_0 l0_0.length c0_0), (.slice A0_1 l0_1.length c0_1), .int .i64 a0_2] 35 (0, 0))) ∧ Aside0 (Below w.heap.size w w'))
     case atStart => exact ⟨(x3_1), (1), (by first | rfl | (simp; done) | (simp [*]; done)), (by first | rfl | (simp; done) | (simp [*]; done)), H', ⟨Nat.le_refl _⟩, ⟨by (with_reducible repeat (first | refine blk_drewN ?_ _ | refine blk_drew ?_ | refine blk_alloc ?_ _)); exact BK105001.out⟩, ⟨by repeat (first | (with_reducible first | exact HB.out | apply below_alloc | apply pw_below_drewN | apply below_drew1 | refine below_set ?_ GE105001.out) | exact HB.out)⟩⟩
     case round =>
      clear H'
      try clear c1
      try clear p1
      try clear q1
      try clear hx1
      try clear p2
      try clear c3
      try clear p6
      try clear c10
      try clear p10
      try clear q10
      try clear hx10
      try clear c11
      try clear c11b0
      try clear c12
      try clear c12b0
      try clear c13
      try clear c13b0
      try clear c14
      try clear c14b0
      try clear c15
      try clear c15b0
      try clear hcz16_0
      try clear hcz16_1
      try clear hcz16_2
      try clear hcz6_0
      try clear hcz6_1
      try clear hcz6_2
      try clear hcz8_0
      try clear hcz8_1
      try clear hcz8_2
      try clear hfz16_0
      try clear hfz16_1
      try clear hfz16_2
      try clear hfz6_0
      try clear hfz6_1
      try clear hfz6_2
      try clear hfz8_0
      try clear hfz8_1
      try clear hfz8_2
      try clear hx105006_0
      try clear hx105007_0
      try clear hx105007_1
      try clear hx105007_2
      try clear hx105007_3
      try clear hx105007_4
      try clear hx105008_0
      try clear hx105008_1
      try clear hx105008_2
      try clear hx105008_3
      try clear hx105008_4
      try clear p105006
      try clear p105007
      try clear p105008
      try clear p2
      try clear q105006
      try clear q105007
      try clear q105008
      obtain ⟨x3_2, x6_2, rfl, rfl, HA, HK2, BK105001, HB⟩ := hrel
      cases gk with
      | zero => exact absurd HA.out (by simp [impl_CountChoices.l1])
      | succ k2 =>
       have H := HA.out
       clear HA
       simp only [impl_CountChoices.l1] at H
       by_cases c17 : x6_2 ≤ 3
       ·rw [if_pos c17] at H
        have c17b0 : decide (x6_2 ≤ 3) = true := decide_eq_true c17
        clear c17
        replace H := Option.bind_eq_some_iff.mp H
        obtain ⟨t105009, A180, H⟩ := H
        replace H : (if t105009 ≥ 0 then (impl_CountChoices.l1 k2 (wrap64 (x3_2 * 2)) (wrap64 (x6_2 + 1)) l0_0 l0_1 a0_2) else (impl_CountChoices.l1 k2 x3_2 (wrap64 (x6_2 + 1)) l0_0 l0_1 a0_2)) = some r := H
        have A18 := Aside0.mk A180; clear A180
        by_cases c19 : t105009 ≥ 0
        ·rw [if_pos c19] at H
         have c19b0 : decide (0 ≤ t105009) = true := decide_eq_true c19
         clear c19
         have H' := Aside0.mk H
         clear H
         have hcz20_0 : wr.cell? ⟨gb105001, 0, none⟩ = some (.slice A0_0 l0_0.length c0_0) := (blk_cell BK105001.out 0).trans rfl
         have hcz20_1 : wr.cell? ⟨gb105001, 1, none⟩ = some (.slice A0_1 l0_1.length c0_1) := (blk_cell BK105001.out 1).trans rfl
         have hcz20_2 : wr.cell? ⟨gb105001, 2, none⟩ = some (.int .i64 a0_2) := (blk_cell BK105001.out 2).trans rfl
         have hfz20_0 := blk_frozen BK105001.out 0
         have hfz20_1 := blk_frozen BK105001.out 1
         have hfz20_2 := blk_frozen BK105001.out 2
         go_wp2_with (first | (go_at_call 126; (with_reducible refine (impl_watcher.calls _ _ l0_0 _ _ l0_1 a0_2 x6_2 t105009 _ ?side1 ?side2 ?side3 ?side4 A18.out).mono ?_); (case side1 => repeat (first | exact (Kd.C_below HR0_0.out HB.out) | (with_reducible refine Kd.C_alloc ?_ _) | (with_reducible refine Kd.C_drewN ?_ _) | (with_reducible refine Kd.C_drew ?_))); (case side2 => exact HC0_0.out); (case side3 => repeat (first | exact (Kd.C_below HR0_1.out HB.out) | (with_reducible refine Kd.C_alloc ?_ _) | (with_reducible refine Kd.C_drewN ?_ _) | (with_reducible refine Kd.C_drew ?_))); (case side4 => exact HC0_1.out); rintro e w21 ⟨rfl, hb⟩; have n0_ := Aside0.mk (blk_below (g := gb105001) (o := .cells #[.slice A0_0 l0_0.length c0_0, .slice A0_1 l0_1.length c0_1, .int .i64 a0_2] 35 (0, 0)) (by (with_reducible repeat (first | refine blk_drewN ?_ _ | refine blk_drew ?_ | refine blk_alloc ?_ _)); exact BK105001.out) hb); have n1_ := Aside0.mk (below_step (by repeat (first | (with_reducible first | exact HB.out | apply below_alloc | apply pw_below_drewN | apply below_drew1 | refine below_set ?_ GE105001.out) | exact HB.out)) hb); clear BK105001; clear HB; have BK105001 := n0_; have HB := n1_; clear n0_ n1_; (try clear hb); (try clear hb2); (try clear hk); (try clear hi)))
         repeat (go_quiet (first | (go_at_call 126; (with_reducible refine (impl_watcher.calls _ _ l0_0 _ _ l0_1 a0_2 x6_2 t105009 _ ?side1 ?side2 ?side3 ?side4 A18.out).mono ?_); (case side1 => repeat (first | exact (Kd.C_below HR0_0.out HB.out) | (with_reducible refine Kd.C_alloc ?_ _) | (with_reducible refine Kd.C_drewN ?_ _) | (with_reducible refine Kd.C_drew ?_))); (case side2 => exact HC0_0.out); (case side3 => repeat (first | exact (Kd.C_below HR0_1.out HB.out) | (with_reducible refine Kd.C_alloc ?_ _) | (with_reducible refine Kd.C_drewN ?_ _) | (with_reducible refine Kd.C_drew ?_))); (case side4 => exact HC0_1.out); rintro e w21 ⟨rfl, hb⟩; have n0_ := Aside0.mk (blk_below (g := gb105001) (o := .cells #[.slice A0_0 l0_0.length c0_0, .slice A0_1 l0_1.length c0_1, .int .i64 a0_2] 35 (0, 0)) (by (with_reducible repeat (first | refine blk_drewN ?_ _ | refine blk_drew ?_ | refine blk_alloc ?_ _)); exact BK105001.out) hb); have n1_ := Aside0.mk (below_step (by repeat (first | (with_reducible first | exact HB.out | apply below_alloc | apply pw_below_drewN | apply below_drew1 | refine below_set ?_ GE105001.out) | exact HB.out)) hb); clear BK105001; clear HB; have BK105001 := n0_; have HB := n1_; clear n0_ n1_; (try clear hb); (try clear hb2); (try clear hk); (try clear hi))); try go_wp2_with (first | (go_at_call 126; (with_reducible refine (impl_watcher.calls _ _ l0_0 _ _ l0_1 a0_2 x6_2 t105009 _ ?side1 ?side2 ?side3 ?side4 A18.out).mono ?_); (case side1 => repeat (first | exact (Kd.C_below HR0_0.out HB.out) | (with_reducible refine Kd.C_alloc ?_ _) | (with_reducible refine Kd.C_drewN ?_ _) | (with_reducible refine Kd.C_drew ?_))); (case side2 => exact HC0_0.out); (case side3 => repeat (first | exact (Kd.C_below HR0_1.out HB.out) | (with_reducible refine Kd.C_alloc ?_ _) | (with_reducible refine Kd.C_drewN ?_ _) | (with_reducible refine Kd.C_drew ?_))); (case side4 => exact HC0_1.out); rintro e w21 ⟨rfl, hb⟩; have n0_ := Aside0.mk (blk_below (g := gb105001) (o := .cells #[.slice A0_0 l0_0.length c0_0, .slice A0_1 l0_1.length c0_1, .int .i64 a0_2] 35 (0, 0)) (by (with_reducible repeat (first | refine blk_drewN ?_ _ | refine blk_drew ?_ | refine blk_alloc ?_ _)); exact BK105001.out) hb); have n1_ := Aside0.mk (below_step (by repeat (first | (with_reducible first | exact HB.out | apply below_alloc | apply pw_below_drewN | apply below_drew1 | refine below_set ?_ GE105001.out) | exact HB.out)) hb); clear BK105001; clear HB; have BK105001 := n0_; have HB := n1_; clear n0_ n1_; (try clear hb); (try clear hb2); (try clear hk); (try clear hi))))
         go_roundg k2
         case measure => have := HK1.out; have := HK2.out; omega
         case rel => exact ⟨(wrap64 (x3_2 * 2)), (wrap64 (x6_2 + 1)), (by first | rfl | (simp; done) | (simp [*]; done)), (by first | rfl | (simp; done) | (simp [*]; done)), H', ⟨by have := HK1.out; have := HK2.out; omega⟩, ⟨by (with_reducible repeat (first | refine blk_drewN ?_ _ | refine blk_drew ?_ | refine blk_alloc ?_ _)); exact BK105001.out⟩, ⟨by repeat (first | (with_reducible first | exact HB.out | apply below_alloc | apply pw_below_drewN | apply below_drew1 | refine below_set ?_ GE105001.out) | exact HB.out)⟩⟩
        ·rw [if_neg c19] at H
         have c19b0 : decide (0 ≤ t105009) = false := decide_eq_false c19
         clear c19
         have H' := Aside0.mk H
         clear H
         have hcz22_0 : wr.cell? ⟨gb105001, 0, none⟩ = some (.slice A0_0 l0_0.length c0_0) := (blk_cell BK105001.out 0).trans rfl
         have hcz22_1 : wr.cell? ⟨gb105001, 1, none⟩ = some (.slice A0_1 l0_1.length c0_1) := (blk_cell BK105001.out 1).trans rfl
         have hcz22_2 : wr.cell? ⟨gb105001, 2, none⟩ = some (.int .i64 a0_2) := (blk_cell BK105001.out 2).trans rfl
         have hfz22_0 := blk_frozen BK105001.out 0
         have hfz22_1 := blk_frozen BK105001.out 1
         have hfz22_2 := blk_frozen BK105001.out 2
         go_wp2_with (first | (go_at_call 126; (with_reducible refine (impl_watcher.calls _ _ l0_0 _ _ l0_1 a0_2 x6_2 t105009 _ ?side1 ?side2 ?side3 ?side4 A18.out).mono ?_); (case side1 => repeat (first | exact (Kd.C_below HR0_0.out HB.out) | (with_reducible refine Kd.C_alloc ?_ _) | (with_reducible refine Kd.C_drewN ?_ _) | (with_reducible refine Kd.C_drew ?_))); (case side2 => exact HC0_0.out); (case side3 => repeat (first | exact (Kd.C_below HR0_1.out HB.out) | (with_reducible refine Kd.C_alloc ?_ _) | (with_reducible refine Kd.C_drewN ?_ _) | (with_reducible refine Kd.C_drew ?_))); (case side4 => exact HC0_1.out); rintro e w23 ⟨rfl, hb⟩; have n0_ := Aside0.mk (blk_below (g := gb105001) (o := .cells #[.slice A0_0 l0_0.length c0_0, .slice A0_1 l0_1.length c0_1, .int .i64 a0_2] 35 (0, 0)) (by (with_reducible repeat (first | refine blk_drewN ?_ _ | refine blk_drew ?_ | refine blk_alloc ?_ _)); exact BK105001.out) hb); have n1_ := Aside0.mk (below_step (by repeat (first | (with_reducible first | exact HB.out | apply below_alloc | apply pw_below_drewN | apply below_drew1 | refine below_set ?_ GE105001.out) | exact HB.out)) hb); clear BK105001; clear HB; have BK105001 := n0_; have HB := n1_; clear n0_ n1_; (try clear hb); (try clear hb2); (try clear hk); (try clear hi)))
         repeat (go_quiet (first | (go_at_call 126; (with_reducible refine (impl_watcher.calls _ _ l0_0 _ _ l0_1 a0_2 x6_2 t105009 _ ?side1 ?side2 ?side3 ?side4 A18.out).mono ?_); (case side1 => repeat (first | exact (Kd.C_below HR0_0.out HB.out) | (with_reducible refine Kd.C_alloc ?_ _) | (with_reducible refine Kd.C_drewN ?_ _) | (with_reducible refine Kd.C_drew ?_))); (case side2 => exact HC0_0.out); (case side3 => repeat (first | exact (Kd.C_below HR0_1.out HB.out) | (with_reducible refine Kd.C_alloc ?_ _) | (with_reducible refine Kd.C_drewN ?_ _) | (with_reducible refine Kd.C_drew ?_))); (case side4 => exact HC0_1.out); rintro e w23 ⟨rfl, hb⟩; have n0_ := Aside0.mk (blk_below (g := gb105001) (o := .cells #[.slice A0_0 l0_0.length c0_0, .slice A0_1 l0_1.length c0_1, .int .i64 a0_2] 35 (0, 0)) (by (with_reducible repeat (first | refine blk_drewN ?_ _ | refine blk_drew ?_ | refine blk_alloc ?_ _)); exact BK105001.out) hb); have n1_ := Aside0.mk (below_step (by repeat (first | (with_reducible first | exact HB.out | apply below_alloc | apply pw_below_drewN | apply below_drew1 | refine below_set ?_ GE105001.out) | exact HB.out)) hb); clear BK105001; clear HB; have BK105001 := n0_; have HB := n1_; clear n0_ n1_; (try clear hb); (try clear hb2); (try clear hk); (try clear hi))); try go_wp2_with (first | (go_at_call 126; (with_reducible refine (impl_watcher.calls _ _ l0_0 _ _ l0_1 a0_2 x6_2 t105009 _ ?side1 ?side2 ?side3 ?side4 A18.out).mono ?_); (case side1 => repeat (first | exact (Kd.C_below HR0_0.out HB.out) | (with_reducible refine Kd.C_alloc ?_ _) | (with_reducible refine Kd.C_drewN ?_ _) | (with_reducible refine Kd.C_drew ?_))); (case side2 => exact HC0_0.out); (case side3 => repeat (first | exact (Kd.C_below HR0_1.out HB.out) | (with_reducible refine Kd.C_alloc ?_ _) | (with_reducible refine Kd.C_drewN ?_ _) | (with_reducible refine Kd.C_drew ?_))); (case side4 => exact HC0_1.out); rintro e w23 ⟨rfl, hb⟩; have n0_ := Aside0.mk (blk_below (g := gb105001) (o := .cells #[.slice A0_0 l0_0.length c0_0, .slice A0_1 l0_1.length c0_1, .int .i64 a0_2] 35 (0, 0)) (by (with_reducible repeat (first | refine blk_drewN ?_ _ | refine blk_drew ?_ | refine blk_alloc ?_ _)); exact BK105001.out) hb); have n1_ := Aside0.mk (below_step (by repeat (first | (with_reducible first | exact HB.out | apply below_alloc | apply pw_below_drewN | apply below_drew1 | refine below_set ?_ GE105001.out) | exact HB.out)) hb); clear BK105001; clear HB; have BK105001 := n0_; have HB := n1_; clear n0_ n1_; (try clear hb); (try clear hb2); (try clear hk); (try clear hi))))
         go_roundg k2
         case measure => have := HK1.out; have := HK2.out; omega
         case rel => exact ⟨(x3_2), (wrap64 (x6_2 + 1)), (by first | rfl | (simp; done) | (simp [*]; done)), (by first | rfl | (simp; done) | (simp [*]; done)), H', ⟨by have := HK1.out; have := HK2.out; omega⟩, ⟨by (with_reducible repeat (first | refine blk_drewN ?_ _ | refine blk_drew ?_ | refine blk_alloc ?_ _)); exact BK105001.out⟩, ⟨by repeat (first | (with_reducible first | exact HB.out | apply below_alloc | apply pw_below_drewN | apply below_drew1 | refine below_set ?_ GE105001.out) | exact HB.out)⟩⟩
       ·rw [if_neg c17] at H
        have c17b0 : decide (x6_2 ≤ 3) = false := decide_eq_false c17
        clear c17
        obtain rfl := Option.some.inj H
        go_wp2
        repeat (go_quiet (fail); try go_wp2)
        go_ret
        exact ⟨by first | rfl | (simp [errW_none, errW_some] <;> rfl) | (simp [*, errW_none, errW_some] <;> rfl), by repeat (first | (with_reducible first | exact HB.out | apply below_alloc | apply pw_below_drewN | apply below_drew1 | refine below_set ?_ GE105001.out) | exact HB.out)⟩
 ·replace c3 := Bool.eq_false_iff.mpr c3
  subst c3
  have H1 : (some 0) = some r := by rw [if_neg (show ¬ (false = true) by decide)] at H; exact H
  clear H
  have H := H1
  clear H1
  obtain rfl := Option.some.inj H
  go_enter Try.func105, Try.ntmps105
  go_wp2_with (first | ((with_reducible refine gate_dst (N := 1) rfl ?_); refine box_event ?hg (N := 1) ?hd (cs := #[.slice A0_0 l0_0.length c0_0, .slice A0_1 l0_1.length c0_1, .int .i64 a0_2]) (t := 35) ?hr ?_; (case hd => rfl); (case hg => rfl); (case hr => first | (go_simp; done) | (go_simp; rfl)); intro gb105001 hg w24 hbox hb; have n0_ := Aside0.mk (below_step (by repeat (first | (with_reducible first | exact HB.out | apply below_alloc | apply pw_below_drewN | apply below_drew1) | exact HB.out)) hb); have n1_ := Aside0.mk (hbox); have n2_ := Aside0.mk ((by rw [hg]; exact (below_size (by repeat (first | (with_reducible first | exact HB.out | apply below_alloc | apply pw_below_drewN | apply below_drew1) | exact HB.out))) : w.heap.size ≤ gb105001)); have n3_ := Aside0.mk ((by rw [hg]; exact (below_size (by repeat (first | (with_reducible first | exact HB.out | apply below_alloc | apply pw_below_drewN | apply below_drew1) | exact HB.out))) : w.heap.size ≤ gb105001)); clear HB; have HB := n0_; have BK105001 := n1_; have GW105001 := n2_; have GE105001 := n3_; clear n0_ n1_ n2_ n3_; clear hb hbox hg; have hcz25_0 : w24.cell? ⟨gb105001, 0, none⟩ = some (.slice A0_0 l0_0.length c0_0) := (blk_cell BK105001.out 0).trans rfl; have hcz25_1 : w24.cell? ⟨gb105001, 1, none⟩ = some (.slice A0_1 l0_1.length c0_1) := (blk_cell BK105001.out 1).trans rfl; have hcz25_2 : w24.cell? ⟨gb105001, 2, none⟩ = some (.int .i64 a0_2) := (blk_cell BK105001.out 2).trans rfl; have hfz25_0 := blk_frozen BK105001.out 0; have hfz25_1 := blk_frozen BK105001.out 1; have hfz25_2 := blk_frozen BK105001.out 2) | (go_at_call 72; (with_reducible refine (impl_ShowOk.calls _ _ l0_0 _ _ l0_1 a0_2 false _ ?side1 ?side2 ?side3 ?side4 A2.out).mono ?_); (case side1 => repeat (first | exact (Kd.C_below HR0_0.out HB.out) | (with_reducible refine Kd.C_alloc ?_ _) | (with_reducible refine Kd.C_drewN ?_ _) | (with_reducible refine Kd.C_drew ?_))); (case side2 => exact HC0_0.out); (case side3 => repeat (first | exact (Kd.C_below HR0_1.out HB.out) | (with_reducible refine Kd.C_alloc ?_ _) | (with_reducible refine Kd.C_drewN ?_ _) | (with_reducible refine Kd.C_drew ?_))); (case side4 => exact HC0_1.out); rintro e w26 ⟨rfl, hb⟩; have n0_ := Aside0.mk (blk_below (g := gb105001) (o := .cells #[.slice A0_0 l0_0.length c0_0, .slice A0_1 l0_1.length c0_1, .int .i64 a0_2] 35 (0, 0)) (by (with_reducible repeat (first | refine blk_drewN ?_ _ | refine blk_drew ?_ | refine blk_alloc ?_ _)); exact BK105001.out) hb); have n1_ := Aside0.mk (below_step (by repeat (first | (with_reducible first | exact HB.out | apply below_alloc | apply pw_below_drewN | apply below_drew1 | refine below_set ?_ GE105001.out) | exact HB.out)) hb); clear BK105001; clear HB; have BK105001 := n0_; have HB := n1_; clear n0_ n1_; (try clear hb); (try clear hb2); (try clear hk); (try clear hi)))
  repeat (go_quiet (first | ((with_reducible refine gate_dst (N := 1) rfl ?_); refine box_event ?hg (N := 1) ?hd (cs := #[.slice A0_0 l0_0.length c0_0, .slice A0_1 l0_1.length c0_1, .int .i64 a0_2]) (t := 35) ?hr ?_; (case hd => rfl); (case hg => rfl); (case hr => first | (go_simp; done) | (go_simp; rfl)); intro gb105001 hg w24 hbox hb; have n0_ := Aside0.mk (below_step (by repeat (first | (with_reducible first | exact HB.out | apply below_alloc | apply pw_below_drewN | apply below_drew1) | exact HB.out)) hb); have n1_ := Aside0.mk (hbox); have n2_ := Aside0.mk ((by rw [hg]; exact (below_size (by repeat (first | (with_reducible first | exact HB.out | apply below_alloc | apply pw_below_drewN | apply below_drew1) | exact HB.out))) : w.heap.size ≤ gb105001)); have n3_ := Aside0.mk ((by rw [hg]; exact (below_size (by repeat (first | (with_reducible first | exact HB.out | apply below_alloc | apply pw_below_drewN | apply below_drew1) | exact HB.out))) : w.heap.size ≤ gb105001)); clear HB; have HB := n0_; have BK105001 := n1_; have GW105001 := n2_; have GE105001 := n3_; clear n0_ n1_ n2_ n3_; clear hb hbox hg; have hcz25_0 : w24.cell? ⟨gb105001, 0, none⟩ = some (.slice A0_0 l0_0.length c0_0) := (blk_cell BK105001.out 0).trans rfl; have hcz25_1 : w24.cell? ⟨gb105001, 1, none⟩ = some (.slice A0_1 l0_1.length c0_1) := (blk_cell BK105001.out 1).trans rfl; have hcz25_2 : w24.cell? ⟨gb105001, 2, none⟩ = some (.int .i64 a0_2) := (blk_cell BK105001.out 2).trans rfl; have hfz25_0 := blk_frozen BK105001.out 0; have hfz25_1 := blk_frozen BK105001.out 1; have hfz25_2 := blk_frozen BK105001.out 2) | (go_at_call 72; (with_reducible refine (impl_ShowOk.calls _ _ l0_0 _ _ l0_1 a0_2 false _ ?side1 ?side2 ?side3 ?side4 A2.out).mono ?_); (case side1 => repeat (first | exact (Kd.C_below HR0_0.out HB.out) | (with_reducible refine Kd.C_alloc ?_ _) | (with_reducible refine Kd.C_drewN ?_ _) | (with_reducible refine Kd.C_drew ?_))); (case side2 => exact HC0_0.out); (case side3 => repeat (first | exact (Kd.C_below HR0_1.out HB.out) | (with_reducible refine Kd.C_alloc ?_ _) | (with_reducible refine Kd.C_drewN ?_ _) | (with_reducible refine Kd.C_drew ?_))); (case side4 => exact HC0_1.out); rintro e w26 ⟨rfl, hb⟩; have n0_ := Aside0.mk (blk_below (g := gb105001) (o := .cells #[.slice A0_0 l0_0.length c0_0, .slice A0_1 l0_1.length c0_1, .int .i64 a0_2] 35 (0, 0)) (by (with_reducible repeat (first | refine blk_drewN ?_ _ | refine blk_drew ?_ | refine blk_alloc ?_ _)); exact BK105001.out) hb); have n1_ := Aside0.mk (below_step (by repeat (first | (with_reducible first | exact HB.out | apply below_alloc | apply pw_below_drewN | apply below_drew1 | refine below_set ?_ GE105001.out) | exact HB.out)) hb); clear BK105001; clear HB; have BK105001 := n0_; have HB := n1_; clear n0_ n1_; (try clear hb); (try clear hb2); (try clear hk); (try clear hi))); try go_wp2_with (first | ((with_reducible refine gate_dst (N := 1) rfl ?_); refine box_event ?hg (N := 1) ?hd (cs := #[.slice A0_0 l0_0.length c0_0, .slice A0_1 l0_1.length c0_1, .int .i64 a0_2]) (t := 35) ?hr ?_; (case hd => rfl); (case hg => rfl); (case hr => first | (go_simp; done) | (go_simp; rfl)); intro gb105001 hg w24 hbox hb; have n0_ := Aside0.mk (below_step (by repeat (first | (with_reducible first | exact HB.out | apply below_alloc | apply pw_below_drewN | apply below_drew1) | exact HB.out)) hb); have n1_ := Aside0.mk (hbox); have n2_ := Aside0.mk ((by rw [hg]; exact (below_size (by repeat (first | (with_reducible first | exact HB.out | apply below_alloc | apply pw_below_drewN | apply below_drew1) | exact HB.out))) : w.heap.size ≤ gb105001)); have n3_ := Aside0.mk ((by rw [hg]; exact (below_size (by repeat (first | (with_reducible first | exact HB.out | apply below_alloc | apply pw_below_drewN | apply below_drew1) | exact HB.out))) : w.heap.size ≤ gb105001)); clear HB; have HB := n0_; have BK105001 := n1_; have GW105001 := n2_; have GE105001 := n3_; clear n0_ n1_ n2_ n3_; clear hb hbox hg; have hcz25_0 : w24.cell? ⟨gb105001, 0, none⟩ = some (.slice A0_0 l0_0.length c0_0) := (blk_cell BK105001.out 0).trans rfl; have hcz25_1 : w24.cell? ⟨gb105001, 1, none⟩ = some (.slice A0_1 l0_1.length c0_1) := (blk_cell BK105001.out 1).trans rfl; have hcz25_2 : w24.cell? ⟨gb105001, 2, none⟩ = some (.int .i64 a0_2) := (blk_cell BK105001.out 2).trans rfl; have hfz25_0 := blk_frozen BK105001.out 0; have hfz25_1 := blk_frozen BK105001.out 1; have hfz25_2 := blk_frozen BK105001.out 2) | (go_at_call 72; (with_reducible refine (impl_ShowOk.calls _ _ l0_0 _ _ l0_1 a0_2 false _ ?side1 ?side2 ?side3 ?side4 A2.out).mono ?_); (case side1 => repeat (first | exact (Kd.C_below HR0_0.out HB.out) | (with_reducible refine Kd.C_alloc ?_ _) | (with_reducible refine Kd.C_drewN ?_ _) | (with_reducible refine Kd.C_drew ?_))); (case side2 => exact HC0_0.out); (case side3 => repeat (first | exact (Kd.C_below HR0_1.out HB.out) | (with_reducible refine Kd.C_alloc ?_ _) | (with_reducible refine Kd.C_drewN ?_ _) | (with_reducible refine Kd.C_drew ?_))); (case side4 => exact HC0_1.out); rintro e w26 ⟨rfl, hb⟩; have n0_ := Aside0.mk (blk_below (g := gb105001) (o := .cells #[.slice A0_0 l0_0.length c0_0, .slice A0_1 l0_1.length c0_1, .int .i64 a0_2] 35 (0, 0)) (by (with_reducible repeat (first | refine blk_drewN ?_ _ | refine blk_drew ?_ | refine blk_alloc ?_ _)); exact BK105001.out) hb); have n1_ := Aside0.mk (below_step (by repeat (first | (with_reducible first | exact HB.out | apply below_alloc | apply pw_below_drewN | apply below_drew1 | refine below_set ?_ GE105001.out) | exact HB.out)) hb); clear BK105001; clear HB; have BK105001 := n0_; have HB := n1_; clear n0_ n1_; (try clear hb); (try clear hb2); (try clear hk); (try clear hi))))
  go_ret
  exact ⟨by first | rfl | (simp [errW_none, errW_some] <;> rfl) | (simp [*, errW_none, errW_some] <;> rfl), by repeat (first | (with_reducible first | exact HB.out | apply below_alloc | apply pw_below_drewN | apply below_drew1 | refine below_set ?_ GE105001.out) | exact HB.out)⟩

end Go.Proofs.Ytodfnelilhjoeaa.Pr

namespace Go.Proofs.Ytodfnelilhjoeaa.Pr
open Go.RowKit Go.Proofs.YtodfnelilhjoeaaW.PrintWords Go.Proofs.YtodfnelilhjoeaaW.PrintLast Go.Proofs.YtodfnelilhjoeaaW.PrintMore
attribute [local go_sem] max2_int min2_int max_two min_two max_three min_three max_four min_four
set_option linter.unusedVariables false
set_option linter.unusedSimpArgs false

/-! ### impl_choiceAt: function 106 -/
mutual
def impl_choiceAt.l0 : Nat → Int → List Int → Int → Int → List (S116) → List (S90) → Int → List Int → Option (List Int × List Int)
 | 0, _, _, _, _, _, _, _, _ => none
 | k + 1, x1, x12, x13, x14, x106002000, x106002001, x106002002, x106004000 => if x14 < x13 then (if 0 ≤ x14 then (if x14 < (x12.length : Int) then (if 0 ≤ (rd x12 x14) then (if (rd x12 x14) < (x106002001.length : Int) then (if (wrap64 ((wrap64 (((rd_T90 x106002001 (rd x12 x14)).f3) - ((rd_T90 x106002001 (rd x12 x14)).f2))) + 1)) = 0 then (none) else (if x106004000.length < 17592186044416 then (impl_choiceAt.l0 k (wrap64 (Int.tdiv x1 (wrap64 ((wrap64 (((rd_T90 x106002001 (rd x12 x14)).f3) - ((rd_T90 x106002001 (rd x12 x14)).f2))) + 1)))) x12 x13 (wrap64 (x14 + 1)) x106002000 x106002001 x106002002 (x106004000 ++ [wrap64 (((rd_T90 x106002001 (rd x12 x14)).f2) + (Int.tmod x1 (wrap64 ((wrap64 (((rd_T90 x106002001 (rd x12 x14)).f3) - ((rd_T90 x106002001 (rd x12 x14)).f2))) + 1))))])) else (none))) else (none)) else (none)) else (none)) else (none)) else (impl_choiceAt.l1 k x1 1 x106002000 x106002001 x106002002 x106004000 ([] : List Int))
def impl_choiceAt.l1 : Nat → Int → Int → List (S116) → List (S90) → Int → List Int → List Int → Option (List Int × List Int)
 | 0, _, _, _, _, _, _, _ => none
 | k + 1, x1, x9, x106002000, x106002001, x106002002, x106004000, x106004001 => if x9 ≤ 3 then ((impl_watcher.f x106002000 x106002001 x106002002 x9).bind fun t106014 => (if t106014 ≥ 0 then (if x106004001.length < 17592186044416 then (impl_choiceAt.l1 k (wrap64 (Int.tdiv x1 2)) (wrap64 (x9 + 1)) x106002000 x106002001 x106002002 x106004000 (x106004001 ++ [wrap64 (1 - (wrap64 ((Int.tmod x1 2) * 2)))])) else (none)) else (if x106004001.length < 17592186044416 then (impl_choiceAt.l1 k x1 (wrap64 (x9 + 1)) x106002000 x106002001 x106002002 x106004000 (x106004001 ++ [1])) else (none)))) else (some (x106004000, x106004001))
end
def impl_choiceAt.f (k : Nat) (l0_0 : List (S116)) (l0_1 : List (S90)) (a0_2 : Int) (a1 : Int) : Option (List Int × List Int) := (impl_freeTies.f k l0_0 l0_1 a0_2).bind fun t106004 => (impl_choiceAt.l0 k a1 t106004 (t106004.length : Int) 0 l0_0 l0_1 a0_2 ([] : List Int))
def impl_choiceAt.T5 : Bool × List (List Nat × List Nat) := (true, [([], []), ([0], [0]), ([], []), ([1, 2], [1, 2]), ([3], [3]), ([4], [4]), ([], []), ([6], [6]), ([], []), ([7, 8], [7, 8]), ([9], [9]), ([10], [10]), ([5, 11], [5, 11]), ([12], [12]), ([13, 0, 1, 2, 3, 4, 5, 6, 7, 8, 9, 10, 11, 12, 13], [13])])
def impl_choiceAt.B5 : List Nat := [0, 1, 0, 7, 15, 31, 0, 64, 0, 448, 960, 1984, 4095, 8191, 16383]
theorem impl_choiceAt.tab5 : rtab .any (opsOf Try.f106 5) = impl_choiceAt.T5 := by kernel_rfl
theorem impl_choiceAt.bits5 : waitsOk impl_choiceAt.T5.2 impl_choiceAt.B5 = true := by kernel_rfl
def impl_choiceAt.T6 : Bool × List (List Nat × List Nat) := (true, [([], []), ([0], [0]), ([], []), ([2], [2]), ([], []), ([3, 4], [3, 4]), ([5], [5]), ([6], [6]), ([], []), ([], []), ([8, 9], [8, 9]), ([7, 10], [7, 10]), ([11], [11]), ([1, 12], [1, 12]), ([0, 1, 2, 3, 4, 5, 6, 7, 8, 9, 10, 11, 12, 13], []), ([14, 13, 13, 0, 1, 2, 3, 4, 5, 6, 7, 8, 9, 10, 11, 12, 13], [13, 14])])
def impl_choiceAt.B6 : List Nat := [0, 1, 0, 4, 0, 28, 60, 124, 0, 0, 768, 2044, 4092, 8191, 16383, 32767]
theorem impl_choiceAt.tab6 : rtab .any (opsOf Try.f106 6) = impl_choiceAt.T6 := by kernel_rfl
theorem impl_choiceAt.bits6 : waitsOk impl_choiceAt.T6.2 impl_choiceAt.B6 = true := by kernel_rfl
set_option maxHeartbeats 8000000 in
set_option maxRecDepth 100000 in
theorem impl_choiceAt.calls (k : Nat) (A0_0 : Option Addr) (c0_0 : Nat) (l0_0 : List (S116)) (A0_1 : Option Addr) (c0_1 : Nat) (l0_1 : List (S90)) (a0_2 : Int) (a1 : Int) (r1 : List Int) (r2 : List Int) (w : World) (hr0_0 : Kd.C k116 w A0_0 l0_0.length l0_0) (hc0_0 : l0_0.length ≤ c0_0) (hr0_1 : Kd.C k90 w A0_1 l0_1.length l0_1) (hc0_1 : l0_1.length ≤ c0_1) (h : impl_choiceAt.f k l0_0 l0_1 a0_2 a1 = some (r1, r2)) :
  Calls Try.prog 106 #[.agg #[.slice A0_0 l0_0.length c0_0, .slice A0_1 l0_1.length c0_1, .int .i64 a0_2], .int .i64 a1] w fun e w' => ∃ v0_ v1_ : Value, e = .returned (.agg #[v0_, v1_]) ∧ Kd.R (Kd.int .i64) 3 w' w.heap.size (fun k_ => some k_ ≠ (v1_ : Value).ownBlock) v0_ r1 ∧ Kd.R (Kd.int .i64) 3 w' w.heap.size (fun k_ => some k_ ≠ (v0_ : Value).ownBlock) v1_ r2 ∧ Below w.heap.size w w' := by
 have hu35 := Try.underlying35
 have hu37 := Try.underlying37
 have HR0_0 := Aside0.mk hr0_0; have HC0_0 := Aside0.mk hc0_0; clear hr0_0 hc0_0; have HR0_1 := Aside0.mk hr0_1; have HC0_1 := Aside0.mk hc0_1; clear hr0_1 hc0_1
 have HB := Aside0.mk (Below.refl w.heap.size w)
 have H : ((impl_freeTies.f k l0_0 l0_1 a0_2).bind fun t106004 => (impl_choiceAt.l0 k a1 t106004 (t106004.length : Int) 0 l0_0 l0_1 a0_2 ([] : List Int))) = some (r1, r2) := h
 clear h
 replace H := Option.bind_eq_some_iff.mp H
 obtain ⟨t106004, A30, H⟩ := H
 replace H : (impl_choiceAt.l0 k a1 t106004 (t106004.length : Int) 0 l0_0 l0_1 a0_2 ([] : List Int)) = some (r1, r2) := H
 have A3 := Aside0.mk A30; clear A30
 have H' := Aside0.mk H
 clear H
 go_enter Try.func106, Try.ntmps106
 go_wp2_with (first | ((with_reducible refine gate_dst (N := 2) rfl ?_); refine box_event ?hg (N := 2) ?hd (cs := #[.slice A0_0 l0_0.length c0_0, .slice A0_1 l0_1.length c0_1, .int .i64 a0_2]) (t := 35) ?hr ?_; (case hd => rfl); (case hg => rfl); (case hr => first | (go_simp; done) | (go_simp; rfl)); intro gb106001 hg w4 hbox hb; have n0_ := Aside0.mk (below_step (by repeat (first | (with_reducible first | exact HB.out | apply below_alloc | apply pw_below_drewN | apply below_drew1) | exact HB.out)) hb); have n1_ := Aside0.mk (hbox); have n2_ := Aside0.mk ((by rw [hg]; exact (below_size (by repeat (first | (with_reducible first | exact HB.out | apply below_alloc | apply pw_below_drewN | apply below_drew1) | exact HB.out))) : w.heap.size ≤ gb106001)); have n3_ := Aside0.mk ((by rw [hg]; exact (below_size (by repeat (first | (with_reducible first | exact HB.out | apply below_alloc | apply pw_below_drewN | apply below_drew1) | exact HB.out))) : w.heap.size ≤ gb106001)); clear HB; have HB := n0_; have BK106001 := n1_; have GW106001 := n2_; have GE106001 := n3_; clear n0_ n1_ n2_ n3_; clear hb hbox hg) | ((with_reducible refine gate_dst (N := 4) rfl ?_); refine box_event ?hg (N := 4) ?hd (cs := #[.slice none 0 0, .slice none 0 0]) (t := 37) ?hr ?_; (case hd => rfl); (case hg => rfl); (case hr => first | (go_simp; done) | (go_simp; rfl)); intro gb106002 hg w5 hbox hb; have n0_ := Aside0.mk (blk_below (g := gb106001) (o := .cells #[.slice A0_0 l0_0.length c0_0, .slice A0_1 l0_1.length c0_1, .int .i64 a0_2] 35 (0, 0)) (by (with_reducible repeat (first | refine blk_drewN ?_ _ | refine blk_drew ?_ | refine blk_alloc ?_ _)); exact BK106001.out) hb); have n1_ := Aside0.mk (below_step (by repeat (first | (with_reducible first | exact HB.out | apply below_alloc | apply pw_below_drewN | apply below_drew1 | refine below_set ?_ GE106001.out) | exact HB.out)) hb); have n2_ := Aside0.mk (hbox); have n3_ := Aside0.mk ((by rw [hg]; exact (below_size (by repeat (first | (with_reducible first | exact HB.out | apply below_alloc | apply pw_below_drewN | apply below_drew1 | refine below_set ?_ GE106001.out) | exact HB.out))) : w.heap.size ≤ gb106002)); have n4_ := Aside0.mk ((by rw [hg]; exact (below_size (by repeat (first | (with_reducible first | exact HB.out | apply below_alloc | apply pw_below_drewN | apply below_drew1 | refine below_set ?_ GE106001.out) | exact HB.out))) : w.heap.size ≤ gb106002)); have n5_ := Aside0.mk ((by rw [hg]; exact Nat.ne_of_lt (blk_lt (g := gb106001) (o := .cells #[.slice A0_0 l0_0.length c0_0, .slice A0_1 l0_1.length c0_1, .int .i64 a0_2] 35 (0, 0)) (by (with_reducible repeat (first | refine blk_drewN ?_ _ | refine blk_drew ?_ | refine blk_alloc ?_ _)); exact BK106001.out)) : gb106001 ≠ gb106002)); have n6_ := Aside0.mk ((by rw [hg]; exact Nat.ne_of_gt (blk_lt (g := gb106001) (o := .cells #[.slice A0_0 l0_0.length c0_0, .slice A0_1 l0_1.length c0_1, .int .i64 a0_2] 35 (0, 0)) (by (with_reducible repeat (first | refine blk_drewN ?_ _ | refine blk_drew ?_ | refine blk_alloc ?_ _)); exact BK106001.out)) : gb106002 ≠ gb106001)); clear BK106001; clear HB; have BK106001 := n0_; have HB := n1_; have BK106002 := n2_; have GW106002 := n3_; have GE106002 := n4_; have NB106001_106002 := n5_; have NB106002_106001 := n6_; clear n0_ n1_ n2_ n3_ n4_ n5_ n6_; clear hb hbox hg) | ((with_reducible refine gate_dst (N := 5) rfl ?_); refine box_event ?hg (N := 5) ?hd (cs := #[.slice none 0 0, .slice none 0 0]) (t := 37) ?hr ?_; (case hd => rfl); (case hg => rfl); (case hr => first | (go_simp; done) | (go_simp; rfl)); intro gb106003 hg w6 hbox hb; have n0_ := Aside0.mk (blk_below (g := gb106001) (o := .cells #[.slice A0_0 l0_0.length c0_0, .slice A0_1 l0_1.length c0_1, .int .i64 a0_2] 35 (0, 0)) (by (with_reducible repeat (first | refine blk_drewN ?_ _ | refine blk_drew ?_ | refine blk_alloc ?_ _)); exact BK106001.out) hb); have n1_ := Aside0.mk (blk_below (g := gb106002) (o := .cells #[.slice none 0 0, .slice none 0 0] 37 (0, 0)) (by (with_reducible repeat (first | refine blk_drewN ?_ _ | refine blk_drew ?_ | refine blk_alloc ?_ _)); exact BK106002.out) hb); have n2_ := Aside0.mk (below_step (by repeat (first | (with_reducible first | exact HB.out | apply below_alloc | apply pw_below_drewN | apply below_drew1 | refine below_set ?_ GE106001.out | refine below_set ?_ GE106002.out) | exact HB.out)) hb); have n3_ := Aside0.mk (hbox); have n4_ := Aside0.mk ((by rw [hg]; exact (below_size (by repeat (first | (with_reducible first | exact HB.out | apply below_alloc | apply pw_below_drewN | apply below_drew1 | refine below_set ?_ GE106001.out | refine below_set ?_ GE106002.out) | exact HB.out))) : w.heap.size ≤ gb106003)); have n5_ := Aside0.mk ((by rw [hg]; exact (below_size (by repeat (first | (with_reducible first | exact HB.out | apply below_alloc | apply pw_below_drewN | apply below_drew1 | refine below_set ?_ GE106001.out | refine below_set ?_ GE106002.out) | exact HB.out))) : w.heap.size ≤ gb106003)); have n6_ := Aside0.mk ((by rw [hg]; exact Nat.ne_of_lt (blk_lt (g := gb106001) (o := .cells #[.slice A0_0 l0_0.length c0_0, .slice A0_1 l0_1.length c0_1, .int .i64 a0_2] 35 (0, 0)) (by (with_reducible repeat (first | refine blk_drewN ?_ _ | refine blk_drew ?_ | refine blk_alloc ?_ _)); exact BK106001.out)) : gb106001 ≠ gb106003)); have n7_ := Aside0.mk ((by rw [hg]; exact Nat.ne_of_gt (blk_lt (g := gb106001) (o := .cells #[.slice A0_0 l0_0.length c0_0, .slice A0_1 l0_1.length c0_1, .int .i64 a0_2] 35 (0, 0)) (by (with_reducible repeat (first | refine blk_drewN ?_ _ | refine blk_drew ?_ | refine blk_alloc ?_ _)); exact BK106001.out)) : gb106003 ≠ gb106001)); have n8_ := Aside0.mk ((by rw [hg]; exact Nat.ne_of_lt (blk_lt (g := gb106002) (o := .cells #[.slice none 0 0, .slice none 0 0] 37 (0, 0)) (by (with_reducible repeat (first | refine blk_drewN ?_ _ | refine blk_drew ?_ | refine blk_alloc ?_ _)); exact BK106002.out)) : gb106002 ≠ gb106003)); have n9_ := Aside0.mk ((by rw [hg]; exact Nat.ne_of_gt (blk_lt (g := gb106002) (o := .cells #[.slice none 0 0, .slice none 0 0] 37 (0, 0)) (by (with_reducible repeat (first | refine blk_drewN ?_ _ | refine blk_drew ?_ | refine blk_alloc ?_ _)); exact BK106002.out)) : gb106003 ≠ gb106002)); clear BK106001; clear BK106002; clear HB; have BK106001 := n0_; have BK106002 := n1_; have HB := n2_; have BK106003 := n3_; have GW106003 := n4_; have GE106003 := n5_; have NB106001_106003 := n6_; have NB106003_106001 := n7_; have NB106002_106003 := n8_; have NB106003_106002 := n9_; clear n0_ n1_ n2_ n3_ n4_ n5_ n6_ n7_ n8_ n9_; clear hb hbox hg; have hnb7 := NB106001_106002.out; have hnc7 := NB106002_106001.out; have hnb8 := NB106001_106003.out; have hnc8 := NB106003_106001.out; have hcz9_0 : w6.cell? ⟨gb106001, 0, none⟩ = some (.slice A0_0 l0_0.length c0_0) := (blk_cell BK106001.out 0).trans rfl; have hcz9_1 : w6.cell? ⟨gb106001, 1, none⟩ = some (.slice A0_1 l0_1.length c0_1) := (blk_cell BK106001.out 1).trans rfl; have hcz9_2 : w6.cell? ⟨gb106001, 2, none⟩ = some (.int .i64 a0_2) := (blk_cell BK106001.out 2).trans rfl; have hfz9_0 := blk_frozen BK106001.out 0; have hfz9_1 := blk_frozen BK106001.out 1; have hfz9_2 := blk_frozen BK106001.out 2) | ((with_reducible refine gate_callee (f := 80) rfl ?_); refine goesL_ (some 12) rfl rfl Try.func80 (by kernel_rfl) rfl #[.agg #[.slice A0_0 l0_0.length c0_0, .slice A0_1 l0_1.length c0_1, .int .i64 a0_2]] rfl (by (try simp only [List.map_toArray, List.map_cons, List.map_nil]); first | done | rfl | (simp only [List.length_drop, List.length_take]; rfl)) ?_; (with_reducible refine (impl_freeTies.calls k _ _ l0_0 _ _ l0_1 a0_2 t106004 _ ?side1 ?side2 ?side3 ?side4 A3.out).mono ?_); (case side1 => repeat (first | exact (Kd.C_below HR0_0.out HB.out) | (with_reducible refine Kd.C_alloc ?_ _) | (with_reducible refine Kd.C_drewN ?_ _) | (with_reducible refine Kd.C_drew ?_))); (case side2 => exact HC0_0.out); (case side3 => repeat (first | exact (Kd.C_below HR0_1.out HB.out) | (with_reducible refine Kd.C_alloc ?_ _) | (with_reducible refine Kd.C_drewN ?_ _) | (with_reducible refine Kd.C_drew ?_))); (case side4 => exact HC0_1.out); rintro e w10 ⟨v106005, rfl, ho0, hb⟩; refine ⟨_, rfl, ?_⟩; have n0_ := Aside0.mk (Kd.R_lower ho0 (below_size (by repeat (first | (with_reducible first | exact HB.out | apply below_alloc | apply pw_below_drewN | apply below_drew1 | refine below_set ?_ GE106001.out | refine below_set ?_ GE106002.out | refine below_set ?_ GE106003.out) | exact HB.out)))); have n1_ := Aside0.mk (blk_below (g := gb106001) (o := .cells #[.slice A0_0 l0_0.length c0_0, .slice A0_1 l0_1.length c0_1, .int .i64 a0_2] 35 (0, 0)) (by (with_reducible repeat (first | refine blk_drewN ?_ _ | refine blk_drew ?_ | refine blk_alloc ?_ _)); exact BK106001.out) hb); have n2_ := Aside0.mk (blk_below (g := gb106002) (o := .cells #[.slice none 0 0, .slice none 0 0] 37 (0, 0)) (by (with_reducible repeat (first | refine blk_drewN ?_ _ | refine blk_drew ?_ | refine blk_alloc ?_ _)); exact BK106002.out) hb); have n3_ := Aside0.mk (blk_below (g := gb106003) (o := .cells #[.slice none 0 0, .slice none 0 0] 37 (0, 0)) (by (with_reducible repeat (first | refine blk_drewN ?_ _ | refine blk_drew ?_ | refine blk_alloc ?_ _)); exact BK106003.out) hb); have n4_ := Aside0.mk (below_step (by repeat (first | (with_reducible first | exact HB.out | apply below_alloc | apply pw_below_drewN | apply below_drew1 | refine below_set ?_ GE106001.out | refine below_set ?_ GE106002.out | refine below_set ?_ GE106003.out) | exact HB.out)) hb); clear BK106001; clear BK106002; clear BK106003; clear HB; have HO106006 := n0_; have BK106001 := n1_; have BK106002 := n2_; have BK106003 := n3_; have HB := n4_; clear n0_ n1_ n2_ n3_ n4_; (try clear hb); (try clear hb2); (try clear hk); (try clear hi); (try clear ho0); obtain ⟨Ao11, co11, eo11⟩ := Kd.R_slice HO106006.out; subst eo11))
 go_loopg [1, 14] k (fun kq v1 v14 w' => ∃ (x1_1 : Int) (x14_1 : Int) (x106004000_1 : List Int) (u106004000 : Value), v1 = .int .i64 x1_1 ∧ v14 = .int .i64 x14_1 ∧ Aside0 (impl_choiceAt.l0 kq x1_1 t106004 (t106004.length : Int) x14_1 l0_0 l0_1 a0_2 x106004000_1 = some (r1, r2)) ∧ Aside0 (kq ≤ k) ∧ Aside0 (Kd.R (Kd.int .i64) 3 w' w.heap.size (fun k_ => some k_ ≠ (u106004000 : Value).ownBlock) (.slice Ao11 t106004.length co11) t106004) ∧ Aside0 (Kd.R (Kd.int .i64) 3 w' w.heap.size (fun k_ => some k_ ≠ ((.slice Ao11 t106004.length co11) : Value).ownBlock) u106004000 x106004000_1) ∧ Aside0 (w'.heap[gb106001]? = some (.cells #[(.slice A0_0 l0_0.length c0_0), (.slice A0_1 l0_1.length c0_1), .int .i64 a0_2] 35 (0, 0))) ∧ Aside0 (w'.heap[gb106002]? = some (.cells #[(.slice none 0 0), (.slice none 0 0)] 37 (0, 0))) ∧ Aside0 (w'.heap[gb106003]? = some (.cells #[u106004000, (.slice none 0 0)] 37 (0, 0))) ∧ Aside0 (Below w.heap.size w w'))
 case atStart => exact ⟨(a1), (0), (([] : List Int)), (.slice none 0 0), (by first | rfl | (simp; done) | (simp [*]; done)), (by first | rfl | (simp; done) | (simp [*]; done)), H', ⟨Nat.le_refl _⟩, ⟨by (with_reducible repeat (first | apply Kd.R_alloc | apply Kd.R_drewN | apply Kd.R_drew)); exact Kd.R_mono HO106006.out (fun _ hk => (by simp [Value.ownBlock]))⟩, ⟨by first | exact Kd.R_nil _ _ _ _ _ | exact Kd.N_nil _ _ _ _ _ | exact Kd.V_nil _ _ _ _ _ | exact Kd.Q_nil _ _ _ _ _ | exact Kd.S_nil _ _ _ _ _⟩, ⟨by (with_reducible repeat (first | refine blk_drewN ?_ _ | refine blk_drew ?_ | refine blk_alloc ?_ _)); exact BK106001.out⟩, ⟨by (with_reducible repeat (first | refine blk_drewN ?_ _ | refine blk_drew ?_ | refine blk_alloc ?_ _)); exact BK106002.out⟩, ⟨by (with_reducible repeat (first | refine blk_drewN ?_ _ | refine blk_drew ?_ | refine blk_alloc ?_ _)); exact BK106003.out⟩, ⟨by repeat (first | (with_reducible first | exact HB.out | apply below_alloc | apply pw_below_drewN | apply below_drew1 | refine below_set ?_ GE106001.out | refine below_set ?_ GE106002.out | refine below_set ?_ GE106003.out) | exact HB.out)⟩⟩
 case round =>
  clear H'
  try clear c1
  try clear p2
  try clear c7
  try clear c8
  try clear c10
  try clear hcz9_0
  try clear hcz9_1
  try clear hcz9_2
  try clear hfz9_0
  try clear hfz9_1
  try clear hfz9_2
  obtain ⟨x1_1, x14_1, x106004000_1, u106004000, rfl, rfl, HA, HK1, HO_12, HO_106004000, BK106001, BK106002, BK106003, HB⟩ := hrel
  cases gk with
  | zero => exact absurd HA.out (by simp [impl_choiceAt.l0])
  | succ k1 =>
   have H := HA.out
   clear HA
   simp only [impl_choiceAt.l0] at H
   by_cases c12 : x14_1 < (t106004.length : Int)
   ·rw [if_pos c12] at H
    have c12b0 : decide (x14_1 < (t106004.length : Int)) = true := decide_eq_true c12
    clear c12
    by_cases c13 : 0 ≤ x14_1
    ·rw [if_pos c13] at H
     have c13b0 : decide (0 ≤ x14_1) = true := decide_eq_true c13
     clear c13
     by_cases c14 : x14_1 < (t106004.length : Int)
     ·rw [if_pos c14] at H
      have c14b0 : decide (x14_1 < (t106004.length : Int)) = true := decide_eq_true c14
      clear c14
      by_cases c15 : 0 ≤ (rd t106004 x14_1)
      ·rw [if_pos c15] at H
       have c15b0 : decide (0 ≤ (rd t106004 x14_1)) = true := decide_eq_true c15
       clear c15
       by_cases c16 : (rd t106004 x14_1) < (l0_1.length : Int)
       ·rw [if_pos c16] at H
        have c16b0 : decide ((rd t106004 x14_1) < (l0_1.length : Int)) = true := decide_eq_true c16
        clear c16
        by_cases c17 : (wrap64 ((wrap64 (((rd_T90 l0_1 (rd t106004 x14_1)).f3) - ((rd_T90 l0_1 (rd t106004 x14_1)).f2))) + 1)) = 0
        ·rw [if_pos c17] at H
         exact absurd H (by simp)
        ·rw [if_neg c17] at H
         have c17b0 : ((wrap64 ((wrap64 (((rd_T90 l0_1 (rd t106004 x14_1)).f3) - ((rd_T90 l0_1 (rd t106004 x14_1)).f2))) + 1)) == 0) = false := beq_eq_false_iff_ne.mpr c17
         have c17b1 : ((wrap64 ((wrap64 (((rd_T90 l0_1 (rd t106004 x14_1)).f3) - ((rd_T90 l0_1 (rd t106004 x14_1)).f2))) + 1)) != 0) = true := bne_iff_ne.mpr c17
         by_cases c18 : x106004000_1.length < 17592186044416
         ·rw [if_pos c18] at H
          have LMc18 := Aside0.mk c18; clear c18
          obtain ⟨y106011, hy106011⟩ : ∃ y_ : List Int, y_ = (x106004000_1 ++ [wrap64 (((rd_T90 l0_1 (rd t106004 x14_1)).f2) + (Int.tmod x1_1 (wrap64 ((wrap64 (((rd_T90 l0_1 (rd t106004 x14_1)).f3) - ((rd_T90 l0_1 (rd t106004 x14_1)).f2))) + 1))))]) := ⟨_, rfl⟩
          replace H : (impl_choiceAt.l0 k1 (wrap64 (Int.tdiv x1_1 (wrap64 ((wrap64 (((rd_T90 l0_1 (rd t106004 x14_1)).f3) - ((rd_T90 l0_1 (rd t106004 x14_1)).f2))) + 1)))) t106004 (t106004.length : Int) (wrap64 (x14_1 + 1)) l0_0 l0_1 a0_2 y106011) = some (r1, r2) := by first | (rw [hy106011]; with_reducible exact H) | (have H2_ := (Option.bind_some _ _).symm.trans H; rw [hy106011]; with_reducible exact H2_) | (have H2_ := (Option.bind_some _ _).symm.trans H; with_reducible exact H2_) | with_reducible exact H | (rw [hy106011]; exact H) | exact H
          have Ny106011 := Aside0.mk hy106011; clear hy106011
          have H' := Aside0.mk H
          clear H
          have p106007 : 0 ≤ (x14_1 : Int) := of_decide_eq_true (by first | (with_reducible assumption) | assumption)
          have q106007 : x14_1 < (t106004.length : Int) := of_decide_eq_true (by first | (with_reducible assumption) | assumption)
          obtain ⟨ad106007, e106007, hx106007_0⟩ := Kd.at_int (Kd.R_reads' HO_12.out).2.2 x14_1 p106007 q106007
          cases e106007
          replace p106007 := eq_true p106007
          replace q106007 := eq_true q106007
          try go_wp2
          have n0_ := Aside0.mk (Kd.R_drew HO_12.out)
          have n1_ := Aside0.mk (Kd.R_drew HO_106004000.out)
          have n2_ := Aside0.mk (blk_drew BK106001.out)
          have n3_ := Aside0.mk (blk_drew BK106002.out)
          have n4_ := Aside0.mk (blk_drew BK106003.out)
          have n5_ := Aside0.mk (below_drew1 HB.out)
          clear HO_12 HO_106004000 BK106001 BK106002 BK106003 HB; have HO_12 := n0_; have HO_106004000 := n1_; have BK106001 := n2_; have BK106002 := n3_; have BK106003 := n4_; have HB := n5_; clear n0_ n1_ n2_ n3_ n4_ n5_
          have p106008 : 0 ≤ ((rd t106004 x14_1) : Int) := of_decide_eq_true (by first | (with_reducible assumption) | assumption)
          have q106008 : (rd t106004 x14_1) < (l0_1.length : Int) := of_decide_eq_true (by first | (with_reducible assumption) | assumption)
          obtain ⟨ad106008, e106008, hx106008_0, hx106008_1, hx106008_2, hx106008_3, hx106008_4⟩ := at_T90 HR0_1.out (rd t106004 x14_1) p106008 q106008
          have hw106008_4 := hx106008_4
          have hw106008_3 := hx106008_3
          have hw106008_2 := hx106008_2
          have hw106008_1 := hx106008_1
          have hw106008_0 := hx106008_0
          cases e106008
          replace hx106008_0 := (HB.out.cell (World.block_lt_of_cell? w _ hx106008_0)).trans hx106008_0
          replace hx106008_1 := (HB.out.cell (World.block_lt_of_cell? w _ hx106008_1)).trans hx106008_1
          replace hx106008_2 := (HB.out.cell (World.block_lt_of_cell? w _ hx106008_2)).trans hx106008_2
          replace hx106008_3 := (HB.out.cell (World.block_lt_of_cell? w _ hx106008_3)).trans hx106008_3
          replace hx106008_4 := (HB.out.cell (World.block_lt_of_cell? w _ hx106008_4)).trans hx106008_4
          replace p106008 := eq_true p106008
          replace q106008 := eq_true q106008
          have p106009 : 0 ≤ ((rd t106004 x14_1) : Int) := of_decide_eq_true (by first | (with_reducible assumption) | assumption)
          have q106009 : (rd t106004 x14_1) < (l0_1.length : Int) := of_decide_eq_true (by first | (with_reducible assumption) | assumption)
          obtain ⟨ad106009, e106009, hx106009_0, hx106009_1, hx106009_2, hx106009_3, hx106009_4⟩ := at_T90 HR0_1.out (rd t106004 x14_1) p106009 q106009
          have hw106009_4 := hx106009_4
          have hw106009_3 := hx106009_3
          have hw106009_2 := hx106009_2
          have hw106009_1 := hx106009_1
          have hw106009_0 := hx106009_0
          obtain rfl : ad106008 = ad106009 := (by injection e106009)
          replace hx106009_0 := (HB.out.cell (World.block_lt_of_cell? w _ hx106009_0)).trans hx106009_0
          replace hx106009_1 := (HB.out.cell (World.block_lt_of_cell? w _ hx106009_1)).trans hx106009_1
          replace hx106009_2 := (HB.out.cell (World.block_lt_of_cell? w _ hx106009_2)).trans hx106009_2
          replace hx106009_3 := (HB.out.cell (World.block_lt_of_cell? w _ hx106009_3)).trans hx106009_3
          replace hx106009_4 := (HB.out.cell (World.block_lt_of_cell? w _ hx106009_4)).trans hx106009_4
          replace p106009 := eq_true p106009
          replace q106009 := eq_true q106009
          refine start_ (n := 15) (S := fun w' => w'.cell? ⟨gb106001, 0, none⟩ = some (.slice A0_0 l0_0.length c0_0) ∧ w'.cell? ⟨gb106001, 1, none⟩ = some (.slice (some ad106008) l0_1.length c0_1) ∧ w'.cell? ⟨gb106001, 2, none⟩ = some (.int .i64 a0_2) ∧ w'.cell? (ad106008.add (((rd t106004 x14_1)).toNat * 5)) = some (.int .i64 ((rd_T90 l0_1 (rd t106004 x14_1)).f0)) ∧ w'.cell? ⟨(ad106008.add (((rd t106004 x14_1)).toNat * 5)).block, (ad106008.add (((rd t106004 x14_1)).toNat * 5)).off + 1, none⟩ = some (.int .i64 ((rd_T90 l0_1 (rd t106004 x14_1)).f1)) ∧ w'.cell? ⟨(ad106008.add (((rd t106004 x14_1)).toNat * 5)).block, (ad106008.add (((rd t106004 x14_1)).toNat * 5)).off + 2, none⟩ = some (.int .i64 ((rd_T90 l0_1 (rd t106004 x14_1)).f2)) ∧ w'.cell? ⟨(ad106008.add (((rd t106004 x14_1)).toNat * 5)).block, (ad106008.add (((rd t106004 x14_1)).toNat * 5)).off + 3, none⟩ = some (.int .i64 ((rd_T90 l0_1 (rd t106004 x14_1)).f3)) ∧ w'.cell? ⟨(ad106008.add (((rd t106004 x14_1)).toNat * 5)).block, (ad106008.add (((rd t106004 x14_1)).toNat * 5)).off + 4, none⟩ = some (.bool ((rd_T90 l0_1 (rd t106004 x14_1)).f4)) ∧ w'.cell? (ad106008.add (((rd t106004 x14_1)).toNat * 5)) = some (.int .i64 ((rd_T90 l0_1 (rd t106004 x14_1)).f0)) ∧ w'.cell? ⟨(ad106008.add (((rd t106004 x14_1)).toNat * 5)).block, (ad106008.add (((rd t106004 x14_1)).toNat * 5)).off + 1, none⟩ = some (.int .i64 ((rd_T90 l0_1 (rd t106004 x14_1)).f1)) ∧ w'.cell? ⟨(ad106008.add (((rd t106004 x14_1)).toNat * 5)).block, (ad106008.add (((rd t106004 x14_1)).toNat * 5)).off + 2, none⟩ = some (.int .i64 ((rd_T90 l0_1 (rd t106004 x14_1)).f2)) ∧ w'.cell? ⟨(ad106008.add (((rd t106004 x14_1)).toNat * 5)).block, (ad106008.add (((rd t106004 x14_1)).toNat * 5)).off + 3, none⟩ = some (.int .i64 ((rd_T90 l0_1 (rd t106004 x14_1)).f3)) ∧ w'.cell? ⟨(ad106008.add (((rd t106004 x14_1)).toNat * 5)).block, (ad106008.add (((rd t106004 x14_1)).toNat * 5)).off + 4, none⟩ = some (.bool ((rd_T90 l0_1 (rd t106004 x14_1)).f4))) (ds := []) #[false, false, false, false, false, false, false, false, false, false, false, false, false, false, false] (by kernel_rfl) rfl rfl ⟨(blk_cell BK106001.out 0).trans rfl, (blk_cell BK106001.out 1).trans rfl, (blk_cell BK106001.out 2).trans rfl, ((HB.out.cell (World.block_lt_of_cell? w _ hw106008_0)).trans hw106008_0), ((HB.out.cell (World.block_lt_of_cell? w _ hw106008_1)).trans hw106008_1), ((HB.out.cell (World.block_lt_of_cell? w _ hw106008_2)).trans hw106008_2), ((HB.out.cell (World.block_lt_of_cell? w _ hw106008_3)).trans hw106008_3), ((HB.out.cell (World.block_lt_of_cell? w _ hw106008_4)).trans hw106008_4), ((HB.out.cell (World.block_lt_of_cell? w _ hw106009_0)).trans hw106009_0), ((HB.out.cell (World.block_lt_of_cell? w _ hw106009_1)).trans hw106009_1), ((HB.out.cell (World.block_lt_of_cell? w _ hw106009_2)).trans hw106009_2), ((HB.out.cell (World.block_lt_of_cell? w _ hw106009_3)).trans hw106009_3), ((HB.out.cell (World.block_lt_of_cell? w _ hw106009_4)).trans hw106009_4)⟩ (fun hHeld => ?_); refine with_tabW impl_choiceAt.tab5 impl_choiceAt.bits5 (fun HT_ HW_ => ?_)
          generalize wr.drew = w19 at HO_12 HO_106004000 BK106001 BK106002 BK106003 HB hx106008_0 hx106008_1 hx106008_2 hx106008_3 hx106008_4 hx106009_0 hx106009_1 hx106009_2 hx106009_3 hx106009_4 hHeld ⊢
          refine pure_ (i := 0) (N := some 18) (v := ?_) (a' := ?_) #[true, false, false, false, false, false, false, false, false, false, false, false, false, false, false] rfl rfl (any_of HT_.out (by kernel_rfl)) (fun _ _ _ h => h) (Or.inl ⟨by rfl, ?_⟩) ?_ ?_
          rotate_left
          ·intro w'
           go_simp
           with_reducible rfl
          rotate_left
          ·simp only [Act.put, List.setIfInBounds_toArray, List.set_cons_zero, List.set_cons_succ, i64_w, i32_w]
           rfl
          refine pure_ (i := 2) (N := some 20) (v := ?_) (a' := ?_) #[true, false, true, false, false, false, false, false, false, false, false, false, false, false, false] rfl rfl (any_of HT_.out (by kernel_rfl)) (fun _ _ _ h => h) (Or.inl ⟨by rfl, ?_⟩) ?_ ?_
          rotate_left
          ·intro w'
           go_simp
           with_reducible rfl
          rotate_left
          ·simp only [Act.put, List.setIfInBounds_toArray, List.set_cons_zero, List.set_cons_succ, i64_w, i32_w]
           rfl
          refine pure_ (i := 6) (N := some 24) (v := ?_) (a' := ?_) #[true, false, true, false, false, false, true, false, false, false, false, false, false, false, false] rfl rfl (any_of HT_.out (by kernel_rfl)) (fun _ _ _ h => h) (Or.inl ⟨by rfl, ?_⟩) ?_ ?_
          rotate_left
          ·intro w'
           go_simp
           with_reducible rfl
          rotate_left
          ·simp only [Act.put, List.setIfInBounds_toArray, List.set_cons_zero, List.set_cons_succ, i64_w, i32_w]
           rfl
          refine pure_ (i := 8) (N := some 26) (v := ?_) (a' := ?_) #[true, false, true, false, false, false, true, false, true, false, false, false, false, false, false] rfl rfl (any_of HT_.out (by kernel_rfl)) (fun _ _ _ h => h) (Or.inl ⟨by rfl, ?_⟩) ?_ ?_
          rotate_left
          ·intro w'
           go_simp
           with_reducible rfl
          rotate_left
          ·simp only [Act.put, List.setIfInBounds_toArray, List.set_cons_zero, List.set_cons_succ, i64_w, i32_w]
           rfl
          refine take_ (i := 1) (N := some 19) (v := ?_) (a' := ?_) #[true, true, true, false, false, false, true, false, true, false, false, false, false, false, false] rfl rfl (take_ofW HT_.out HW_.out (by kernel_rfl)) (fun _ _ _ h => h) (Or.inl ⟨by rfl, ?_⟩) hHeld ?_ ?_
          rotate_left
          ·rintro w' ⟨s0, s1, s2, s3, s4, s5, s6, s7, s8, s9, s10, s11, s12⟩
           go_simp
           with_reducible rfl
          rotate_left
          ·simp only [Act.put, List.setIfInBounds_toArray, List.set_cons_zero, List.set_cons_succ, i64_w, i32_w]
           rfl
          refine pure_ (i := 3) (N := some 21) (v := ?_) (a' := ?_) #[true, true, true, true, false, false, true, false, true, false, false, false, false, false, false] rfl rfl (any_of HT_.out (by kernel_rfl)) (fun _ _ _ h => h) (Or.inl ⟨by rfl, ?_⟩) ?_ ?_
          rotate_left
          ·intro w'
           go_simp
           with_reducible rfl
          rotate_left
          ·simp only [Act.put, List.setIfInBounds_toArray, List.set_cons_zero, List.set_cons_succ, i64_w, i32_w]
           rfl
          refine pure_ (i := 4) (N := some 22) (v := ?_) (a' := ?_) #[true, true, true, true, true, false, true, false, true, false, false, false, false, false, false] rfl rfl (any_of HT_.out (by kernel_rfl)) (fun _ _ _ h => h) (Or.inl ⟨by rfl, ?_⟩) ?_ ?_
          rotate_left
          ·intro w'
           go_simp
           with_reducible rfl
          rotate_left
          ·simp only [Act.put, List.setIfInBounds_toArray, List.set_cons_zero, List.set_cons_succ, i64_w, i32_w]
           rfl
          refine take_ (i := 5) (N := some 23) (v := ?_) (a' := ?_) #[true, true, true, true, true, true, true, false, true, false, false, false, false, false, false] rfl rfl (take_ofW HT_.out HW_.out (by kernel_rfl)) (fun _ _ _ h => h) (Or.inl ⟨by rfl, ?_⟩) hHeld ?_ ?_
          rotate_left
          ·rintro w' ⟨s0, s1, s2, s3, s4, s5, s6, s7, s8, s9, s10, s11, s12⟩
           go_simp
           with_reducible rfl
          rotate_left
          ·simp only [Act.put, List.setIfInBounds_toArray, List.set_cons_zero, List.set_cons_succ, i64_w, i32_w]
           rfl
          refine take_ (i := 7) (N := some 25) (v := ?_) (a' := ?_) #[true, true, true, true, true, true, true, true, true, false, false, false, false, false, false] rfl rfl (take_ofW HT_.out HW_.out (by kernel_rfl)) (fun _ _ _ h => h) (Or.inl ⟨by rfl, ?_⟩) hHeld ?_ ?_
          rotate_left
          ·rintro w' ⟨s0, s1, s2, s3, s4, s5, s6, s7, s8, s9, s10, s11, s12⟩
           go_simp
           with_reducible rfl
          rotate_left
          ·simp only [Act.put, List.setIfInBounds_toArray, List.set_cons_zero, List.set_cons_succ, i64_w, i32_w]
           rfl
          refine pure_ (i := 9) (N := some 27) (v := ?_) (a' := ?_) #[true, true, true, true, true, true, true, true, true, true, false, false, false, false, false] rfl rfl (any_of HT_.out (by kernel_rfl)) (fun _ _ _ h => h) (Or.inl ⟨by rfl, ?_⟩) ?_ ?_
          rotate_left
          ·intro w'
           go_simp
           with_reducible rfl
          rotate_left
          ·simp only [Act.put, List.setIfInBounds_toArray, List.set_cons_zero, List.set_cons_succ, i64_w, i32_w]
           rfl
          refine pure_ (i := 10) (N := some 28) (v := ?_) (a' := ?_) #[true, true, true, true, true, true, true, true, true, true, true, false, false, false, false] rfl rfl (any_of HT_.out (by kernel_rfl)) (fun _ _ _ h => h) (Or.inl ⟨by rfl, ?_⟩) ?_ ?_
          rotate_left
          ·intro w'
           go_simp
           with_reducible rfl
          rotate_left
          ·simp only [Act.put, List.setIfInBounds_toArray, List.set_cons_zero, List.set_cons_succ, i64_w, i32_w]
           rfl
          refine take_ (i := 11) (N := some 29) (v := ?_) (a' := ?_) #[true, true, true, true, true, true, true, true, true, true, true, true, false, false, false] rfl rfl (take_ofW HT_.out HW_.out (by kernel_rfl)) (fun _ _ _ h => h) (Or.inl ⟨by rfl, ?_⟩) hHeld ?_ ?_
          rotate_left
          ·rintro w' ⟨s0, s1, s2, s3, s4, s5, s6, s7, s8, s9, s10, s11, s12⟩
           go_simp
           with_reducible rfl
          rotate_left
          ·simp only [Act.put, List.setIfInBounds_toArray, List.set_cons_zero, List.set_cons_succ, i64_w, i32_w]
           rfl
          refine pure_ (i := 12) (N := some 30) (v := ?_) (a' := ?_) #[true, true, true, true, true, true, true, true, true, true, true, true, true, false, false] rfl rfl (any_of HT_.out (by kernel_rfl)) (fun _ _ _ h => h) (Or.inl ⟨by rfl, ?_⟩) ?_ ?_
          rotate_left
          ·intro w'
           go_simp
           with_reducible rfl
          rotate_left
          ·simp only [Act.put, List.setIfInBounds_toArray, List.set_cons_zero, List.set_cons_succ, i64_w, i32_w]
           rfl
          refine pure_ (i := 13) (N := some 31) (v := ?_) (a' := ?_) #[true, true, true, true, true, true, true, true, true, true, true, true, true, true, false] rfl rfl (any_of HT_.out (by kernel_rfl)) (fun _ _ _ h => h) (Or.inl ⟨by rfl, ?_⟩) ?_ ?_
          rotate_left
          ·intro w'
           go_simp
           with_reducible rfl
          rotate_left
          ·simp only [Act.put, List.setIfInBounds_toArray, List.set_cons_zero, List.set_cons_succ, i64_w, i32_w]
           rfl
          refine pure_ (i := 14) (N := some 8) (v := ?_) (a' := ?_) #[true, true, true, true, true, true, true, true, true, true, true, true, true, true, true] rfl rfl (any_of HT_.out (by kernel_rfl)) (fun _ _ _ h => h) (Or.inl ⟨by rfl, ?_⟩) ?_ ?_
          rotate_left
          ·intro w'
           go_simp
           with_reducible rfl
          rotate_left
          ·simp only [Act.put, List.setIfInBounds_toArray, List.set_cons_zero, List.set_cons_succ, i64_w, i32_w]
           rfl
          refine done_ (done_of HT_.out (by kernel_rfl)) ?_
          try go_wp2
          have n0_ := Aside0.mk (Kd.R_drew HO_12.out)
          have n1_ := Aside0.mk (Kd.R_drew HO_106004000.out)
          have n2_ := Aside0.mk (blk_drew BK106001.out)
          have n3_ := Aside0.mk (blk_drew BK106002.out)
          have n4_ := Aside0.mk (blk_drew BK106003.out)
          have n5_ := Aside0.mk (below_drew1 HB.out)
          clear HO_12 HO_106004000 BK106001 BK106002 BK106003 HB; have HO_12 := n0_; have HO_106004000 := n1_; have BK106001 := n2_; have BK106002 := n3_; have BK106003 := n4_; have HB := n5_; clear n0_ n1_ n2_ n3_ n4_ n5_
          have p106010 : 0 ≤ ((rd t106004 x14_1) : Int) := of_decide_eq_true (by first | (with_reducible assumption) | assumption)
          have q106010 : (rd t106004 x14_1) < (l0_1.length : Int) := of_decide_eq_true (by first | (with_reducible assumption) | assumption)
          obtain ⟨ad106010, e106010, hx106010_0, hx106010_1, hx106010_2, hx106010_3, hx106010_4⟩ := at_T90 HR0_1.out (rd t106004 x14_1) p106010 q106010
          have hw106010_4 := hx106010_4
          have hw106010_3 := hx106010_3
          have hw106010_2 := hx106010_2
          have hw106010_1 := hx106010_1
          have hw106010_0 := hx106010_0
          obtain rfl : ad106008 = ad106010 := (by injection e106010)
          replace hx106010_0 := (HB.out.cell (World.block_lt_of_cell? w _ hx106010_0)).trans hx106010_0
          replace hx106010_1 := (HB.out.cell (World.block_lt_of_cell? w _ hx106010_1)).trans hx106010_1
          replace hx106010_2 := (HB.out.cell (World.block_lt_of_cell? w _ hx106010_2)).trans hx106010_2
          replace hx106010_3 := (HB.out.cell (World.block_lt_of_cell? w _ hx106010_3)).trans hx106010_3
          replace hx106010_4 := (HB.out.cell (World.block_lt_of_cell? w _ hx106010_4)).trans hx106010_4
          replace p106010 := eq_true p106010
          replace q106010 := eq_true q106010
          refine start_ (n := 16) (S := fun w' => w'.cell? ⟨gb106003, 0, none⟩ = some (u106004000) ∧ w'.cell? ⟨gb106003, 1, none⟩ = some (.slice none 0 0) ∧ w'.cell? ⟨gb106001, 0, none⟩ = some (.slice A0_0 l0_0.length c0_0) ∧ w'.cell? ⟨gb106001, 1, none⟩ = some (.slice (some ad106008) l0_1.length c0_1) ∧ w'.cell? ⟨gb106001, 2, none⟩ = some (.int .i64 a0_2) ∧ w'.cell? (ad106008.add (((rd t106004 x14_1)).toNat * 5)) = some (.int .i64 ((rd_T90 l0_1 (rd t106004 x14_1)).f0)) ∧ w'.cell? ⟨(ad106008.add (((rd t106004 x14_1)).toNat * 5)).block, (ad106008.add (((rd t106004 x14_1)).toNat * 5)).off + 1, none⟩ = some (.int .i64 ((rd_T90 l0_1 (rd t106004 x14_1)).f1)) ∧ w'.cell? ⟨(ad106008.add (((rd t106004 x14_1)).toNat * 5)).block, (ad106008.add (((rd t106004 x14_1)).toNat * 5)).off + 2, none⟩ = some (.int .i64 ((rd_T90 l0_1 (rd t106004 x14_1)).f2)) ∧ w'.cell? ⟨(ad106008.add (((rd t106004 x14_1)).toNat * 5)).block, (ad106008.add (((rd t106004 x14_1)).toNat * 5)).off + 3, none⟩ = some (.int .i64 ((rd_T90 l0_1 (rd t106004 x14_1)).f3)) ∧ w'.cell? ⟨(ad106008.add (((rd t106004 x14_1)).toNat * 5)).block, (ad106008.add (((rd t106004 x14_1)).toNat * 5)).off + 4, none⟩ = some (.bool ((rd_T90 l0_1 (rd t106004 x14_1)).f4))) (ds := [15]) #[false, false, false, false, false, false, false, false, false, false, false, false, false, false, false, false] (by kernel_rfl) rfl rfl ⟨(blk_cell BK106003.out 0).trans rfl, (blk_cell BK106003.out 1).trans rfl, (blk_cell BK106001.out 0).trans rfl, (blk_cell BK106001.out 1).trans rfl, (blk_cell BK106001.out 2).trans rfl, ((HB.out.cell (World.block_lt_of_cell? w _ hw106010_0)).trans hw106010_0), ((HB.out.cell (World.block_lt_of_cell? w _ hw106010_1)).trans hw106010_1), ((HB.out.cell (World.block_lt_of_cell? w _ hw106010_2)).trans hw106010_2), ((HB.out.cell (World.block_lt_of_cell? w _ hw106010_3)).trans hw106010_3), ((HB.out.cell (World.block_lt_of_cell? w _ hw106010_4)).trans hw106010_4)⟩ (fun hHeld => ?_); refine with_tabW impl_choiceAt.tab6 impl_choiceAt.bits6 (fun HT_ HW_ => ?_)
          generalize w19.drew = w20 at HO_12 HO_106004000 BK106001 BK106002 BK106003 HB hx106010_0 hx106010_1 hx106010_2 hx106010_3 hx106010_4 hHeld ⊢
          refine pure_ (i := 0) (N := some 32) (v := ?_) (a' := ?_) #[true, false, false, false, false, false, false, false, false, false, false, false, false, false, false, false] rfl rfl (any_of HT_.out (by kernel_rfl)) (fun _ _ _ h => h) (Or.inl ⟨by rfl, ?_⟩) ?_ ?_
          rotate_left
          ·intro w'
           go_simp
           with_reducible rfl
          rotate_left
          ·simp only [Act.put, List.setIfInBounds_toArray, List.set_cons_zero, List.set_cons_succ, i64_w, i32_w]
           rfl
          refine pure_ (i := 2) (N := some 34) (v := ?_) (a' := ?_) #[true, false, true, false, false, false, false, false, false, false, false, false, false, false, false, false] rfl rfl (any_of HT_.out (by kernel_rfl)) (fun _ _ _ h => h) (Or.inl ⟨by rfl, ?_⟩) ?_ ?_
          rotate_left
          ·intro w'
           go_simp
           with_reducible rfl
          rotate_left
          ·simp only [Act.put, List.setIfInBounds_toArray, List.set_cons_zero, List.set_cons_succ, i64_w, i32_w]
           rfl
          refine pure_ (i := 4) (N := some 36) (v := ?_) (a' := ?_) #[true, false, true, false, true, false, false, false, false, false, false, false, false, false, false, false] rfl rfl (any_of HT_.out (by kernel_rfl)) (fun _ _ _ h => h) (Or.inl ⟨by rfl, ?_⟩) ?_ ?_
          rotate_left
          ·intro w'
           go_simp
           with_reducible rfl
          rotate_left
          ·simp only [Act.put, List.setIfInBounds_toArray, List.set_cons_zero, List.set_cons_succ, i64_w, i32_w]
           rfl
          refine pure_ (i := 8) (N := some 40) (v := ?_) (a' := ?_) #[true, false, true, false, true, false, false, false, true, false, false, false, false, false, false, false] rfl rfl (any_of HT_.out (by kernel_rfl)) (fun _ _ _ h => h) (Or.inl ⟨by rfl, ?_⟩) ?_ ?_
          rotate_left
          ·intro w'
           go_simp
           with_reducible rfl
          rotate_left
          ·simp only [Act.put, List.setIfInBounds_toArray, List.set_cons_zero, List.set_cons_succ, i64_w, i32_w]
           rfl
          refine pure_ (i := 9) (N := some 41) (v := ?_) (a' := ?_) #[true, false, true, false, true, false, false, false, true, true, false, false, false, false, false, false] rfl rfl (any_of HT_.out (by kernel_rfl)) (fun _ _ _ h => h) (Or.inl ⟨by rfl, ?_⟩) ?_ ?_
          rotate_left
          ·intro w'
           go_simp
           with_reducible rfl
          rotate_left
          ·simp only [Act.put, List.setIfInBounds_toArray, List.set_cons_zero, List.set_cons_succ, i64_w, i32_w]
           rfl
          refine pure_ (i := 10) (N := some 42) (v := ?_) (a' := ?_) #[true, false, true, false, true, false, false, false, true, true, true, false, false, false, false, false] rfl rfl (any_of HT_.out (by kernel_rfl)) (fun _ _ _ h => h) (Or.inl ⟨by rfl, ?_⟩) ?_ ?_
          rotate_left
          ·intro w'
           go_simp
           with_reducible rfl
          rotate_left
          ·simp only [Act.put, List.setIfInBounds_toArray, List.set_cons_zero, List.set_cons_succ, i64_w, i32_w]
           rfl
          refine take_ (i := 1) (N := some 33) (v := ?_) (a' := ?_) #[true, true, true, false, true, false, false, false, true, true, true, false, false, false, false, false] rfl rfl (take_ofW HT_.out HW_.out (by kernel_rfl)) (fun _ _ _ h => h) (Or.inl ⟨by rfl, ?_⟩) hHeld ?_ ?_
          rotate_left
          ·rintro w' ⟨s0, s1, s2, s3, s4, s5, s6, s7, s8, s9⟩
           go_simp
           with_reducible rfl
          rotate_left
          ·simp only [Act.put, List.setIfInBounds_toArray, List.set_cons_zero, List.set_cons_succ, i64_w, i32_w]
           rfl
          refine take_ (i := 3) (N := some 35) (v := ?_) (a' := ?_) #[true, true, true, true, true, false, false, false, true, true, true, false, false, false, false, false] rfl rfl (take_ofW HT_.out HW_.out (by kernel_rfl)) (fun _ _ _ h => h) (Or.inl ⟨by rfl, ?_⟩) hHeld ?_ ?_
          rotate_left
          ·rintro w' ⟨s0, s1, s2, s3, s4, s5, s6, s7, s8, s9⟩
           go_simp
           with_reducible rfl
          rotate_left
          ·simp only [Act.put, List.setIfInBounds_toArray, List.set_cons_zero, List.set_cons_succ, i64_w, i32_w]
           rfl
          refine pure_ (i := 5) (N := some 37) (v := ?_) (a' := ?_) #[true, true, true, true, true, true, false, false, true, true, true, false, false, false, false, false] rfl rfl (any_of HT_.out (by kernel_rfl)) (fun _ _ _ h => h) (Or.inl ⟨by rfl, ?_⟩) ?_ ?_
          rotate_left
          ·intro w'
           go_simp
           with_reducible rfl
          rotate_left
          ·simp only [Act.put, List.setIfInBounds_toArray, List.set_cons_zero, List.set_cons_succ, i64_w, i32_w]
           rfl
          refine pure_ (i := 6) (N := some 38) (v := ?_) (a' := ?_) #[true, true, true, true, true, true, true, false, true, true, true, false, false, false, false, false] rfl rfl (any_of HT_.out (by kernel_rfl)) (fun _ _ _ h => h) (Or.inl ⟨by rfl, ?_⟩) ?_ ?_
          rotate_left
          ·intro w'
           go_simp
           with_reducible rfl
          rotate_left
          ·simp only [Act.put, List.setIfInBounds_toArray, List.set_cons_zero, List.set_cons_succ, i64_w, i32_w]
           rfl
          refine take_ (i := 7) (N := some 39) (v := ?_) (a' := ?_) #[true, true, true, true, true, true, true, true, true, true, true, false, false, false, false, false] rfl rfl (take_ofW HT_.out HW_.out (by kernel_rfl)) (fun _ _ _ h => h) (Or.inl ⟨by rfl, ?_⟩) hHeld ?_ ?_
          rotate_left
          ·rintro w' ⟨s0, s1, s2, s3, s4, s5, s6, s7, s8, s9⟩
           go_simp
           with_reducible rfl
          rotate_left
          ·simp only [Act.put, List.setIfInBounds_toArray, List.set_cons_zero, List.set_cons_succ, i64_w, i32_w]
           rfl
          refine pure_ (i := 11) (N := some 43) (v := ?_) (a' := ?_) #[true, true, true, true, true, true, true, true, true, true, true, true, false, false, false, false] rfl rfl (any_of HT_.out (by kernel_rfl)) (fun _ _ _ h => h) (Or.inl ⟨by rfl, ?_⟩) ?_ ?_
          rotate_left
          ·intro w'
           go_simp
           with_reducible rfl
          rotate_left
          ·simp only [Act.put, List.setIfInBounds_toArray, List.set_cons_zero, List.set_cons_succ, i64_w, i32_w]
           rfl
          refine one_ (i := 12) (N := some 44) #[true, true, true, true, true, true, true, true, true, true, true, true, true, false, false, false] rfl rfl (one_of HT_.out (by kernel_rfl)) (by decide) (fun K hK => ?_)
          refine value_ (w1 := ?_) (v := ?_) (by rfl) rfl ?_ ?_
          rotate_left 2
          ·go_simp
           constructor
           ·rfl
           ·rfl
          refine hK.out _ _ ⟨(blk_cell (blk_alloc BK106003.out _) 0).trans rfl, (blk_cell (blk_alloc BK106003.out _) 1).trans rfl, (blk_cell (blk_alloc BK106001.out _) 0).trans rfl, (blk_cell (blk_alloc BK106001.out _) 1).trans rfl, (blk_cell (blk_alloc BK106001.out _) 2).trans rfl, (World.cell?_alloc_lt _ _ _ (World.block_lt_of_cell? _ _ (((HB.out.cell (World.block_lt_of_cell? w _ hw106010_0)).trans hw106010_0)))).trans (((HB.out.cell (World.block_lt_of_cell? w _ hw106010_0)).trans hw106010_0)), (World.cell?_alloc_lt _ _ _ (World.block_lt_of_cell? _ _ (((HB.out.cell (World.block_lt_of_cell? w _ hw106010_1)).trans hw106010_1)))).trans (((HB.out.cell (World.block_lt_of_cell? w _ hw106010_1)).trans hw106010_1)), (World.cell?_alloc_lt _ _ _ (World.block_lt_of_cell? _ _ (((HB.out.cell (World.block_lt_of_cell? w _ hw106010_2)).trans hw106010_2)))).trans (((HB.out.cell (World.block_lt_of_cell? w _ hw106010_2)).trans hw106010_2)), (World.cell?_alloc_lt _ _ _ (World.block_lt_of_cell? _ _ (((HB.out.cell (World.block_lt_of_cell? w _ hw106010_3)).trans hw106010_3)))).trans (((HB.out.cell (World.block_lt_of_cell? w _ hw106010_3)).trans hw106010_3)), (World.cell?_alloc_lt _ _ _ (World.block_lt_of_cell? _ _ (((HB.out.cell (World.block_lt_of_cell? w _ hw106010_4)).trans hw106010_4)))).trans (((HB.out.cell (World.block_lt_of_cell? w _ hw106010_4)).trans hw106010_4))⟩ (fun hHeld => ?_)
          clear hK K
          refine norm_ (a' := ?_) ?_ ?_
          rotate_left
          ·show Act.put _ (some 44) _ = _
           simp only [Act.put, List.setIfInBounds_toArray, List.set_cons_zero, List.set_cons_succ, i64_w, i32_w]
           rfl
          refine one_ (i := 13) (N := some 45) #[true, true, true, true, true, true, true, true, true, true, true, true, true, true, false, false] rfl rfl (one_of HT_.out (by kernel_rfl)) (by decide) (fun K hK => ?_)
          refine Kd.R_append_step (Kd.int .i64) (w0 := w) w.heap.size (by rfl) (.tmp 33) (.tmp 44) 26 3 (.int .i64 0) 8 rfl Try.underlying26 info3 rfl (by decide) (by omega) u106004000 x106004000_1 (wrap64 (((rd_T90 l0_1 (rd t106004 x14_1)).f2) + (Int.tmod x1_1 (wrap64 ((wrap64 (((rd_T90 l0_1 (rd t106004 x14_1)).f3) - ((rd_T90 l0_1 (rd t106004 x14_1)).f2))) + 1))))) [.int .i64 (wrap64 (((rd_T90 l0_1 (rd t106004 x14_1)).f2) + (Int.tmod x1_1 (wrap64 ((wrap64 (((rd_T90 l0_1 (rd t106004 x14_1)).f3) - ((rd_T90 l0_1 (rd t106004 x14_1)).f2))) + 1)))))] (fun k_ => some k_ ≠ (.slice (some ad106007) t106004.length co11 : Value).ownBlock) (fun _ => False) rfl rfl ?aP (fun _ hk => hk.elim) ?aF ?aO ?aB ?aS ?aL ?_
          (case aP => exact rfl)
          (case aB => exact (by repeat (first | (with_reducible first | exact HB.out | apply below_alloc | apply pw_below_drewN | apply below_drew1 | refine below_set ?_ GE106001.out | refine below_set ?_ GE106002.out | refine below_set ?_ GE106003.out) | exact HB.out)))
          (case aF => exact (fun k_ hk => Kd.fresh' (Kd.R_lt (by (with_reducible repeat (first | apply Kd.R_alloc | apply Kd.R_drewN | apply Kd.R_drew)); exact HO_12.out)) k_ hk))
          (case aO => exact (by (with_reducible repeat (first | apply Kd.R_alloc | apply Kd.R_drewN | apply Kd.R_drew)); exact HO_106004000.out))
          (case aS => exact (below_size (by repeat (first | (with_reducible first | exact HB.out | apply below_alloc | apply pw_below_drewN | apply below_drew1 | refine below_set ?_ GE106001.out | refine below_set ?_ GE106002.out | refine below_set ?_ GE106003.out) | exact HB.out))))
          (case aL => have := LMc18.out; omega)
          intro v106012 w21 ho hb hg hat
          rw [← Ny106011.out] at ho
          have n0_ := Aside0.mk (Kd.R_after (ok := (fun _ => True)) (by (with_reducible repeat (first | apply Kd.R_alloc | apply Kd.R_drewN | apply Kd.R_drew)); exact Kd.R_mono HO_12.out (fun _ hk => ⟨trivial, hk⟩)) hg hat)
          have n1_ := Aside0.mk (blk_grown (g := gb106001) (o := .cells #[.slice A0_0 l0_0.length c0_0, .slice (some ad106008) l0_1.length c0_1, .int .i64 a0_2] 35 (0, 0)) (by (with_reducible repeat (first | refine blk_drewN ?_ _ | refine blk_drew ?_ | refine blk_alloc ?_ _)); exact BK106001.out) hg (Kd.R_ne HO_106004000.out BK106001.out (by decide)))
          have n2_ := Aside0.mk (blk_grown (g := gb106002) (o := .cells #[.slice none 0 0, .slice none 0 0] 37 (0, 0)) (by (with_reducible repeat (first | refine blk_drewN ?_ _ | refine blk_drew ?_ | refine blk_alloc ?_ _)); exact BK106002.out) hg (Kd.R_ne HO_106004000.out BK106002.out (by decide)))
          have n3_ := Aside0.mk (blk_grown (g := gb106003) (o := .cells #[u106004000, .slice none 0 0] 37 (0, 0)) (by (with_reducible repeat (first | refine blk_drewN ?_ _ | refine blk_drew ?_ | refine blk_alloc ?_ _)); exact BK106003.out) hg (Kd.R_ne HO_106004000.out BK106003.out (by decide)))
          have n4_ := Aside0.mk (hb)
          have n5_ := Aside0.mk (ho)
          clear HO_12 BK106001 BK106002 BK106003 HB HO_106004000; have HO_12 := n0_; have BK106001 := n1_; have BK106002 := n2_; have BK106003 := n3_; have HB := n4_; have HO106013 := n5_; clear n0_ n1_ n2_ n3_ n4_ n5_ ho hb hg hat
          obtain ⟨Ao22, co22, eo22⟩ := Kd.R_slice HO106013.out
          (first | subst eo22 | (injection eo22 with f1_ f2_ f3_; have f4_ := f1_.symm; have f5_ := f3_.symm; clear f1_ f2_ f3_; subst f4_; subst f5_))
          refine hK.out _ _ ⟨(blk_cell BK106003.out 0).trans rfl, (blk_cell BK106003.out 1).trans rfl, (blk_cell BK106001.out 0).trans rfl, (blk_cell BK106001.out 1).trans rfl, (blk_cell BK106001.out 2).trans rfl, ((HB.out.cell (World.block_lt_of_cell? w _ hw106010_0)).trans hw106010_0), ((HB.out.cell (World.block_lt_of_cell? w _ hw106010_1)).trans hw106010_1), ((HB.out.cell (World.block_lt_of_cell? w _ hw106010_2)).trans hw106010_2), ((HB.out.cell (World.block_lt_of_cell? w _ hw106010_3)).trans hw106010_3), ((HB.out.cell (World.block_lt_of_cell? w _ hw106010_4)).trans hw106010_4)⟩ (fun hHeld => ?_)
          clear hK K
          refine norm_ (a' := ?_) ?_ ?_
          rotate_left
          ·show Act.put _ (some 45) _ = _
           simp only [Act.put, List.setIfInBounds_toArray, List.set_cons_zero, List.set_cons_succ, i64_w, i32_w]
           rfl
          refine pure_ (i := 14) (N := some 46) (v := ?_) (a' := ?_) #[true, true, true, true, true, true, true, true, true, true, true, true, true, true, true, false] rfl rfl (any_of HT_.out (by kernel_rfl)) (fun _ _ _ h => h) (Or.inl ⟨by rfl, ?_⟩) ?_ ?_
          rotate_left
          ·intro w'
           go_simp
           with_reducible rfl
          rotate_left
          ·simp only [Act.put, List.setIfInBounds_toArray, List.set_cons_zero, List.set_cons_succ, i64_w, i32_w]
           rfl
          refine last_ (i := 15) (N := none) #[true, true, true, true, true, true, true, true, true, true, true, true, true, true, true, true] rfl rfl (one_of HT_.out (by kernel_rfl)) (by decide) (fun K hK => ?_)
          have hs23 : w21.cell? ⟨gb106003, 0, none⟩ = some (u106004000) := (blk_cell BK106003.out 0).trans rfl
          have hfs23 := blk_frozen BK106003.out 0
          have hns23_0 := NB106001_106003.out
          have hns23_1 := NB106002_106003.out
          have hms23_0 := NB106003_106001.out
          have hms23_1 := NB106003_106002.out
          refine skip_ (w1 := ?_) (by rfl) rfl ?_ ?_
          rotate_left
          ·go_simp
           rfl
          refine hK.out _ _ ?_
          clear hK K
          refine done_ (done_of HT_.out (by kernel_rfl)) ?_
          try go_wp2
          go_roundg k1
          case measure => have := HK1.out; omega
          case rel => exact ⟨(wrap64 (Int.tdiv x1_1 (wrap64 ((wrap64 (((rd_T90 l0_1 (rd t106004 x14_1)).f3) - ((rd_T90 l0_1 (rd t106004 x14_1)).f2))) + 1)))), (wrap64 (x14_1 + 1)), (y106011), (.slice Ao22 y106011.length co22), (by first | rfl | (simp; done) | (simp [*]; done)), (by first | rfl | (simp; done) | (simp [*]; done)), H', ⟨by have := HK1.out; omega⟩, ⟨by (with_reducible repeat (first | apply Kd.R_alloc | apply Kd.R_drewN | apply Kd.R_drew)); exact Kd.R_mono (Kd.R_far (p := ⟨gb106003, 0, none⟩) (Kd.R_types HO_12.out BK106003.out (by decide)) (fun _ hk => hk.2) (.slice Ao22 y106011.length co22)) (fun _ hk => hk.1.2)⟩, ⟨by (with_reducible repeat (first | apply Kd.R_alloc | apply Kd.R_drewN | apply Kd.R_drew)); exact Kd.R_mono (Kd.R_far (p := ⟨gb106003, 0, none⟩) (Kd.R_types HO106013.out BK106003.out (by decide)) (fun _ hk => hk.2) (.slice Ao22 y106011.length co22)) (fun _ hk => hk.1)⟩, ⟨by (with_reducible repeat (first | refine blk_drewN ?_ _ | refine blk_drew ?_ | refine blk_alloc ?_ _)); refine blk_far ?_ NB106001_106003.out _; (with_reducible repeat (first | refine blk_drewN ?_ _ | refine blk_drew ?_ | refine blk_alloc ?_ _)); exact BK106001.out⟩, ⟨by (with_reducible repeat (first | refine blk_drewN ?_ _ | refine blk_drew ?_ | refine blk_alloc ?_ _)); refine blk_far ?_ NB106002_106003.out _; (with_reducible repeat (first | refine blk_drewN ?_ _ | refine blk_drew ?_ | refine blk_alloc ?_ _)); exact BK106002.out⟩, ⟨by (with_reducible repeat (first | refine blk_drewN ?_ _ | refine blk_drew ?_ | refine blk_alloc ?_ _)); refine blk_put (cs := #[u106004000, .slice none 0 0]) ?_ 0 _ rfl; (with_reducible repeat (first | refine blk_drewN ?_ _ | refine blk_drew ?_ | refine blk_alloc ?_ _)); exact BK106003.out⟩, ⟨by repeat (first | (with_reducible first | exact HB.out | apply below_alloc | apply pw_below_drewN | apply below_drew1 | refine below_set ?_ GE106001.out | refine below_set ?_ GE106002.out | refine below_set ?_ GE106003.out) | exact HB.out)⟩⟩
         ·rw [if_neg c18] at H
          exact absurd H (by simp)
       ·rw [if_neg c16] at H
        exact absurd H (by simp)
      ·rw [if_neg c15] at H
       exact absurd H (by simp)
     ·rw [if_neg c14] at H
      exact absurd H (by simp)
    ·rw [if_neg c13] at H
     exact absurd H (by simp)
   ·rw [if_neg c12] at H
    have c12b0 : decide (x14_1 < (t106004.length : Int)) = false := decide_eq_false c12
    clear c12
    have H' := Aside0.mk H
    clear H
    go_wp2
    go_loopg [1, 9] k1 (fun kq v1 v9 w' => ∃ (x1_2 : Int) (x9_2 : Int) (x106004001_2 : List Int) (u106004001 : Value), v1 = .int .i64 x1_2 ∧ v9 = .int .i64 x9_2 ∧ Aside0 (impl_choiceAt.l1 kq x1_2 x9_2 l0_0 l0_1 a0_2 x106004000_1 x106004001_2 = some (r1, r2)) ∧ Aside0 (kq ≤ k1) ∧ Aside0 (Kd.R (Kd.int .i64) 3 w' w.heap.size (fun k_ => some k_ ≠ (u106004001 : Value).ownBlock) u106004000 x106004000_1) ∧ Aside0 (Kd.R (Kd.int .i64) 3 w' w.heap.size (fun k_ => some k_ ≠ (u106004000 : Value).ownBlock) u106004001 x106004001_2) ∧ Aside0 (w'.heap[gb106001]? = some (.cells #[(.slice A0_0 l0_0.length c0_0), (.slice A0_1 l0_1.length c0_1), .int .i64 a0_2] 35 (0, 0))) ∧ Aside0 (w'.heap[gb106002]? = some (.cells #[(.slice none 0 0), (.slice none 0 0)] 37 (0, 0))) ∧ Aside0 (w'.heap[gb106003]? = some (.cells #[u106004000, u106004001] 37 (0, 0))) ∧ Aside0 (Below w.heap.size w w'))
    case atStart => exact ⟨(x1_1), (1), (([] : List Int)), (.slice none 0 0), (by first | rfl | (simp; done) | (simp [*]; done)), (by first | rfl | (simp; done) | (simp [*]; done)), H', ⟨Nat.le_refl _⟩, ⟨by (with_reducible repeat (first | apply Kd.R_alloc | apply Kd.R_drewN | apply Kd.R_drew)); exact Kd.R_mono HO_106004000.out (fun _ hk => (by simp [Value.ownBlock]))⟩, ⟨by first | exact Kd.R_nil _ _ _ _ _ | exact Kd.N_nil _ _ _ _ _ | exact Kd.V_nil _ _ _ _ _ | exact Kd.Q_nil _ _ _ _ _ | exact Kd.S_nil _ _ _ _ _⟩, ⟨by (with_reducible repeat (first | refine blk_drewN ?_ _ | refine blk_drew ?_ | refine blk_alloc ?_ _)); exact BK106001.out⟩, ⟨by (with_reducible repeat (first | refine blk_drewN ?_ _ | refine blk_drew ?_ | refine blk_alloc ?_ _)); exact BK106002.out⟩, ⟨by (with_reducible repeat (first | refine blk_drewN ?_ _ | refine blk_drew ?_ | refine blk_alloc ?_ _)); exact BK106003.out⟩, ⟨by repeat (first | (with_reducible first | exact HB.out | apply below_alloc | apply pw_below_drewN | apply below_drew1 | refine below_set ?_ GE106001.out | refine below_set ?_ GE106002.out | refine below_set ?_ GE106003.out) | exact HB.out)⟩⟩
    case round =>
     clear H'
     try clear c1
     try clear p1
     try clear q1
     try clear hx1
     try clear p2
     try clear p6
     try clear c7
     try clear c8
     try clear c10
     try clear p10
     try clear q10
     try clear hx10
     try clear c12
     try clear c12b0
     try clear c13
     try clear c13b0
     try clear c14
     try clear c14b0
     try clear c15
     try clear c15b0
     try clear c16
     try clear c16b0
     try clear c17
     try clear c17b0
     try clear c17b1
     try clear c18
     try clear hcz9_0
     try clear hcz9_1
     try clear hcz9_2
     try clear hfz9_0
     try clear hfz9_1
     try clear hfz9_2
     try clear hx106007_0
     try clear hx106008_0
     try clear hx106008_1
     try clear hx106008_2
     try clear hx106008_3
     try clear hx106008_4
     try clear hx106009_0
     try clear hx106009_1
     try clear hx106009_2
     try clear hx106009_3
     try clear hx106009_4
     try clear hx106010_0
     try clear hx106010_1
     try clear hx106010_2
     try clear hx106010_3
     try clear hx106010_4
     try clear p106007
     try clear p106008
     try clear p106009
     try clear p106010
     try clear p2
     try clear q106007
     try clear q106008
     try clear q106009
     try clear q106010
     obtain ⟨x1_2, x9_2, x106004001_2, u106004001, rfl, rfl, HA, HK2, HO_106004000, HO_106004001, BK106001, BK106002, BK106003, HB⟩ := hrel
     cases gk with
     | zero => exact absurd HA.out (by simp [impl_choiceAt.l1])
     | succ k2 =>
      have H := HA.out
      clear HA
      simp only [impl_choiceAt.l1] at H
      by_cases c24 : x9_2 ≤ 3
      ·rw [if_pos c24] at H
       have c24b0 : decide (x9_2 ≤ 3) = true := decide_eq_true c24
       clear c24
       replace H := Option.bind_eq_some_iff.mp H
       obtain ⟨t106014, A250, H⟩ := H
       replace H : (if t106014 ≥ 0 then (if x106004001_2.length < 17592186044416 then (impl_choiceAt.l1 k2 (wrap64 (Int.tdiv x1_2 2)) (wrap64 (x9_2 + 1)) l0_0 l0_1 a0_2 x106004000_1 (x106004001_2 ++ [wrap64 (1 - (wrap64 ((Int.tmod x1_2 2) * 2)))])) else (none)) else (if x106004001_2.length < 17592186044416 then (impl_choiceAt.l1 k2 x1_2 (wrap64 (x9_2 + 1)) l0_0 l0_1 a0_2 x106004000_1 (x106004001_2 ++ [1])) else (none))) = some (r1, r2) := H
       have A25 := Aside0.mk A250; clear A250
       by_cases c26 : t106014 ≥ 0
       ·rw [if_pos c26] at H
        have c26b0 : decide (0 ≤ t106014) = true := decide_eq_true c26
        clear c26
        by_cases c27 : x106004001_2.length < 17592186044416
        ·rw [if_pos c27] at H
         have LMc27 := Aside0.mk c27; clear c27
         obtain ⟨y106015, hy106015⟩ : ∃ y_ : List Int, y_ = (x106004001_2 ++ [wrap64 (1 - (wrap64 ((Int.tmod x1_2 2) * 2)))]) := ⟨_, rfl⟩
         replace H : (impl_choiceAt.l1 k2 (wrap64 (Int.tdiv x1_2 2)) (wrap64 (x9_2 + 1)) l0_0 l0_1 a0_2 x106004000_1 y106015) = some (r1, r2) := by first | (rw [hy106015]; with_reducible exact H) | (have H2_ := (Option.bind_some _ _).symm.trans H; rw [hy106015]; with_reducible exact H2_) | (have H2_ := (Option.bind_some _ _).symm.trans H; with_reducible exact H2_) | with_reducible exact H | (rw [hy106015]; exact H) | exact H
         have Ny106015 := Aside0.mk hy106015; clear hy106015
         have H' := Aside0.mk H
         clear H
         have hnb28 := NB106001_106002.out
         have hnc28 := NB106002_106001.out
         have hnb29 := NB106001_106003.out
         have hnc29 := NB106003_106001.out
         have hcz30_0 : wr.cell? ⟨gb106001, 0, none⟩ = some (.slice A0_0 l0_0.length c0_0) := (blk_cell BK106001.out 0).trans rfl
         have hcz30_1 : wr.cell? ⟨gb106001, 1, none⟩ = some (.slice A0_1 l0_1.length c0_1) := (blk_cell BK106001.out 1).trans rfl
         have hcz30_2 : wr.cell? ⟨gb106001, 2, none⟩ = some (.int .i64 a0_2) := (blk_cell BK106001.out 2).trans rfl
         have hfz30_0 := blk_frozen BK106001.out 0
         have hfz30_1 := blk_frozen BK106001.out 1
         have hfz30_2 := blk_frozen BK106001.out 2
         go_wp2_with (first | ((with_reducible refine gate_callee (f := 126) rfl ?_); refine goesL_ (some 57) rfl rfl Try.func126 (by kernel_rfl) rfl #[.agg #[.slice A0_0 l0_0.length c0_0, .slice A0_1 l0_1.length c0_1, .int .i64 a0_2], .int .i64 x9_2] rfl (by (try simp only [List.map_toArray, List.map_cons, List.map_nil]); first | done | rfl | (simp only [List.length_drop, List.length_take]; rfl)) ?_; (with_reducible refine (impl_watcher.calls _ _ l0_0 _ _ l0_1 a0_2 x9_2 t106014 _ ?side1 ?side2 ?side3 ?side4 A25.out).mono ?_); (case side1 => repeat (first | exact (Kd.C_below HR0_0.out HB.out) | (with_reducible refine Kd.C_alloc ?_ _) | (with_reducible refine Kd.C_drewN ?_ _) | (with_reducible refine Kd.C_drew ?_))); (case side2 => exact HC0_0.out); (case side3 => repeat (first | exact (Kd.C_below HR0_1.out HB.out) | (with_reducible refine Kd.C_alloc ?_ _) | (with_reducible refine Kd.C_drewN ?_ _) | (with_reducible refine Kd.C_drew ?_))); (case side4 => exact HC0_1.out); rintro e w31 ⟨rfl, hb⟩; refine ⟨_, rfl, ?_⟩; have n0_ := Aside0.mk (Kd.R_below (by (with_reducible repeat (first | apply Kd.R_alloc | apply Kd.R_drewN | apply Kd.R_drew)); exact HO_106004000.out) hb); have n1_ := Aside0.mk (Kd.R_below (by (with_reducible repeat (first | apply Kd.R_alloc | apply Kd.R_drewN | apply Kd.R_drew)); exact HO_106004001.out) hb); have n2_ := Aside0.mk (blk_below (g := gb106001) (o := .cells #[.slice A0_0 l0_0.length c0_0, .slice A0_1 l0_1.length c0_1, .int .i64 a0_2] 35 (0, 0)) (by (with_reducible repeat (first | refine blk_drewN ?_ _ | refine blk_drew ?_ | refine blk_alloc ?_ _)); exact BK106001.out) hb); have n3_ := Aside0.mk (blk_below (g := gb106002) (o := .cells #[.slice none 0 0, .slice none 0 0] 37 (0, 0)) (by (with_reducible repeat (first | refine blk_drewN ?_ _ | refine blk_drew ?_ | refine blk_alloc ?_ _)); exact BK106002.out) hb); have n4_ := Aside0.mk (blk_below (g := gb106003) (o := .cells #[u106004000, u106004001] 37 (0, 0)) (by (with_reducible repeat (first | refine blk_drewN ?_ _ | refine blk_drew ?_ | refine blk_alloc ?_ _)); exact BK106003.out) hb); have n5_ := Aside0.mk (below_step (by repeat (first | (with_reducible first | exact HB.out | apply below_alloc | apply pw_below_drewN | apply below_drew1 | refine below_set ?_ GE106001.out | refine below_set ?_ GE106002.out | refine below_set ?_ GE106003.out) | exact HB.out)) hb); clear HO_106004000; clear HO_106004001; clear BK106001; clear BK106002; clear BK106003; clear HB; have HO_106004000 := n0_; have HO_106004001 := n1_; have BK106001 := n2_; have BK106002 := n3_; have BK106003 := n4_; have HB := n5_; clear n0_ n1_ n2_ n3_ n4_ n5_; (try clear hb); (try clear hb2); (try clear hk); (try clear hi); have hnb32 := NB106003_106002.out; have hnc32 := NB106002_106003.out; have hcz33_0 : w31.cell? ⟨gb106003, 0, none⟩ = some (u106004000) := (blk_cell BK106003.out 0).trans rfl; have hcz33_1 : w31.cell? ⟨gb106003, 1, none⟩ = some (u106004001) := (blk_cell BK106003.out 1).trans rfl; have hfz33_0 := blk_frozen BK106003.out 0; have hfz33_1 := blk_frozen BK106003.out 1) | ((with_reducible refine gate_builtin (b := .append) (xs := #[.tmp 66, .tmp 68]) rfl ?_); at_builtin; refine Kd.R_append (Kd.int .i64) (w0 := w) w.heap.size rfl (.tmp 66) (.tmp 68) 26 3 (.int .i64 0) 8 rfl Try.underlying26 info3 rfl (by decide) (by omega) u106004001 x106004001_2 (wrap64 (1 - (wrap64 ((Int.tmod x1_2 2) * 2)))) [.int .i64 (wrap64 (1 - (wrap64 ((Int.tmod x1_2 2) * 2))))] (fun k_ => some k_ ≠ (u106004000 : Value).ownBlock) (fun _ => False) rfl rfl ?aP (fun _ hk => hk.elim) ?aF ?aO ?aB ?aS ?aL ?_; (case aP => exact rfl); (case aB => exact (by repeat (first | (with_reducible first | exact HB.out | apply below_alloc | apply pw_below_drewN | apply below_drew1 | refine below_set ?_ GE106001.out | refine below_set ?_ GE106002.out | refine below_set ?_ GE106003.out) | exact HB.out))); (case aF => exact (fun k_ hk => Kd.fresh' (Kd.R_lt (by (with_reducible repeat (first | apply Kd.R_alloc | apply Kd.R_drewN | apply Kd.R_drew)); exact HO_106004000.out)) k_ hk)); (case aO => exact (by (with_reducible repeat (first | apply Kd.R_alloc | apply Kd.R_drewN | apply Kd.R_drew)); exact HO_106004001.out)); (case aS => exact (below_size (by repeat (first | (with_reducible first | exact HB.out | apply below_alloc | apply pw_below_drewN | apply below_drew1 | refine below_set ?_ GE106001.out | refine below_set ?_ GE106002.out | refine below_set ?_ GE106003.out) | exact HB.out)))); (case aL => have := LMc27.out; omega); intro v106016 w34 ho hb hg hat; rw [← Ny106015.out] at ho; have n0_ := Aside0.mk (Kd.R_after (ok := (fun _ => True)) (by (with_reducible repeat (first | apply Kd.R_alloc | apply Kd.R_drewN | apply Kd.R_drew)); exact Kd.R_mono HO_106004000.out (fun _ hk => ⟨trivial, hk⟩)) hg hat); have n1_ := Aside0.mk (blk_grown (g := gb106001) (o := .cells #[.slice A0_0 l0_0.length c0_0, .slice A0_1 l0_1.length c0_1, .int .i64 a0_2] 35 (0, 0)) (by (with_reducible repeat (first | refine blk_drewN ?_ _ | refine blk_drew ?_ | refine blk_alloc ?_ _)); exact BK106001.out) hg (Kd.R_ne HO_106004001.out BK106001.out (by decide))); have n2_ := Aside0.mk (blk_grown (g := gb106002) (o := .cells #[.slice none 0 0, .slice none 0 0] 37 (0, 0)) (by (with_reducible repeat (first | refine blk_drewN ?_ _ | refine blk_drew ?_ | refine blk_alloc ?_ _)); exact BK106002.out) hg (Kd.R_ne HO_106004001.out BK106002.out (by decide))); have n3_ := Aside0.mk (blk_grown (g := gb106003) (o := .cells #[u106004000, u106004001] 37 (0, 0)) (by (with_reducible repeat (first | refine blk_drewN ?_ _ | refine blk_drew ?_ | refine blk_alloc ?_ _)); exact BK106003.out) hg (Kd.R_ne HO_106004001.out BK106003.out (by decide))); have n4_ := Aside0.mk (hb); have n5_ := Aside0.mk (ho); clear HO_106004000; clear BK106001; clear BK106002; clear BK106003; clear HB; clear HO_106004001; have HO_106004000 := n0_; have BK106001 := n1_; have BK106002 := n2_; have BK106003 := n3_; have HB := n4_; have HO106017 := n5_; clear n0_ n1_ n2_ n3_ n4_ n5_; clear ho hb hg hat; obtain ⟨Ao35, co35, eo35⟩ := Kd.R_slice HO106017.out; subst eo35; have hcz36_0 : w34.cell? ⟨gb106003, 0, none⟩ = some (u106004000) := (blk_cell BK106003.out 0).trans rfl; have hcz36_1 : w34.cell? ⟨gb106003, 1, none⟩ = some (u106004001) := (blk_cell BK106003.out 1).trans rfl; have hfz36_0 := blk_frozen BK106003.out 0; have hfz36_1 := blk_frozen BK106003.out 1))
         go_roundg k2
         case measure => have := HK1.out; have := HK2.out; omega
         case rel => exact ⟨(wrap64 (Int.tdiv x1_2 2)), (wrap64 (x9_2 + 1)), (y106015), (.slice Ao35 y106015.length co35), (by first | rfl | (simp; done) | (simp [*]; done)), (by first | rfl | (simp; done) | (simp [*]; done)), H', ⟨by have := HK1.out; have := HK2.out; omega⟩, ⟨by (with_reducible repeat (first | apply Kd.R_alloc | apply Kd.R_drewN | apply Kd.R_drew)); exact Kd.R_mono (Kd.R_far (p := ⟨gb106003, 1, none⟩) (Kd.R_types HO_106004000.out BK106003.out (by decide)) (fun _ hk => hk.2) (.slice Ao35 y106015.length co35)) (fun _ hk => hk.1.2)⟩, ⟨by (with_reducible repeat (first | apply Kd.R_alloc | apply Kd.R_drewN | apply Kd.R_drew)); exact Kd.R_mono (Kd.R_far (p := ⟨gb106003, 1, none⟩) (Kd.R_types HO106017.out BK106003.out (by decide)) (fun _ hk => hk.2) (.slice Ao35 y106015.length co35)) (fun _ hk => hk.1)⟩, ⟨by (with_reducible repeat (first | refine blk_drewN ?_ _ | refine blk_drew ?_ | refine blk_alloc ?_ _)); refine blk_far ?_ NB106001_106003.out _; (with_reducible repeat (first | refine blk_drewN ?_ _ | refine blk_drew ?_ | refine blk_alloc ?_ _)); exact BK106001.out⟩, ⟨by (with_reducible repeat (first | refine blk_drewN ?_ _ | refine blk_drew ?_ | refine blk_alloc ?_ _)); refine blk_far ?_ NB106002_106003.out _; (with_reducible repeat (first | refine blk_drewN ?_ _ | refine blk_drew ?_ | refine blk_alloc ?_ _)); exact BK106002.out⟩, ⟨by (with_reducible repeat (first | refine blk_drewN ?_ _ | refine blk_drew ?_ | refine blk_alloc ?_ _)); refine blk_put (cs := #[u106004000, u106004001]) ?_ 1 _ rfl; (with_reducible repeat (first | refine blk_drewN ?_ _ | refine blk_drew ?_ | refine blk_alloc ?_ _)); exact BK106003.out⟩, ⟨by repeat (first | (with_reducible first | exact HB.out | apply below_alloc | apply pw_below_drewN | apply below_drew1 | refine below_set ?_ GE106001.out | refine below_set ?_ GE106002.out | refine below_set ?_ GE106003.out) | exact HB.out)⟩⟩
        ·rw [if_neg c27] at H
         exact absurd H (by simp)
       ·rw [if_neg c26] at H
        have c26b0 : decide (0 ≤ t106014) = false := decide_eq_false c26
        clear c26
        by_cases c37 : x106004001_2.length < 17592186044416
        ·rw [if_pos c37] at H
         have LMc37 := Aside0.mk c37; clear c37
         obtain ⟨y106018, hy106018⟩ : ∃ y_ : List Int, y_ = (x106004001_2 ++ [1]) := ⟨_, rfl⟩
         replace H : (impl_choiceAt.l1 k2 x1_2 (wrap64 (x9_2 + 1)) l0_0 l0_1 a0_2 x106004000_1 y106018) = some (r1, r2) := by first | (rw [hy106018]; with_reducible exact H) | (have H2_ := (Option.bind_some _ _).symm.trans H; rw [hy106018]; with_reducible exact H2_) | (have H2_ := (Option.bind_some _ _).symm.trans H; with_reducible exact H2_) | with_reducible exact H | (rw [hy106018]; exact H) | exact H
         have Ny106018 := Aside0.mk hy106018; clear hy106018
         have H' := Aside0.mk H
         clear H
         have hnb38 := NB106001_106002.out
         have hnc38 := NB106002_106001.out
         have hnb39 := NB106001_106003.out
         have hnc39 := NB106003_106001.out
         have hcz40_0 : wr.cell? ⟨gb106001, 0, none⟩ = some (.slice A0_0 l0_0.length c0_0) := (blk_cell BK106001.out 0).trans rfl
         have hcz40_1 : wr.cell? ⟨gb106001, 1, none⟩ = some (.slice A0_1 l0_1.length c0_1) := (blk_cell BK106001.out 1).trans rfl
         have hcz40_2 : wr.cell? ⟨gb106001, 2, none⟩ = some (.int .i64 a0_2) := (blk_cell BK106001.out 2).trans rfl
         have hfz40_0 := blk_frozen BK106001.out 0
         have hfz40_1 := blk_frozen BK106001.out 1
         have hfz40_2 := blk_frozen BK106001.out 2
         go_wp2_with (first | ((with_reducible refine gate_callee (f := 126) rfl ?_); refine goesL_ (some 57) rfl rfl Try.func126 (by kernel_rfl) rfl #[.agg #[.slice A0_0 l0_0.length c0_0, .slice A0_1 l0_1.length c0_1, .int .i64 a0_2], .int .i64 x9_2] rfl (by (try simp only [List.map_toArray, List.map_cons, List.map_nil]); first | done | rfl | (simp only [List.length_drop, List.length_take]; rfl)) ?_; (with_reducible refine (impl_watcher.calls _ _ l0_0 _ _ l0_1 a0_2 x9_2 t106014 _ ?side1 ?side2 ?side3 ?side4 A25.out).mono ?_); (case side1 => repeat (first | exact (Kd.C_below HR0_0.out HB.out) | (with_reducible refine Kd.C_alloc ?_ _) | (with_reducible refine Kd.C_drewN ?_ _) | (with_reducible refine Kd.C_drew ?_))); (case side2 => exact HC0_0.out); (case side3 => repeat (first | exact (Kd.C_below HR0_1.out HB.out) | (with_reducible refine Kd.C_alloc ?_ _) | (with_reducible refine Kd.C_drewN ?_ _) | (with_reducible refine Kd.C_drew ?_))); (case side4 => exact HC0_1.out); rintro e w41 ⟨rfl, hb⟩; refine ⟨_, rfl, ?_⟩; have n0_ := Aside0.mk (Kd.R_below (by (with_reducible repeat (first | apply Kd.R_alloc | apply Kd.R_drewN | apply Kd.R_drew)); exact HO_106004000.out) hb); have n1_ := Aside0.mk (Kd.R_below (by (with_reducible repeat (first | apply Kd.R_alloc | apply Kd.R_drewN | apply Kd.R_drew)); exact HO_106004001.out) hb); have n2_ := Aside0.mk (blk_below (g := gb106001) (o := .cells #[.slice A0_0 l0_0.length c0_0, .slice A0_1 l0_1.length c0_1, .int .i64 a0_2] 35 (0, 0)) (by (with_reducible repeat (first | refine blk_drewN ?_ _ | refine blk_drew ?_ | refine blk_alloc ?_ _)); exact BK106001.out) hb); have n3_ := Aside0.mk (blk_below (g := gb106002) (o := .cells #[.slice none 0 0, .slice none 0 0] 37 (0, 0)) (by (with_reducible repeat (first | refine blk_drewN ?_ _ | refine blk_drew ?_ | refine blk_alloc ?_ _)); exact BK106002.out) hb); have n4_ := Aside0.mk (blk_below (g := gb106003) (o := .cells #[u106004000, u106004001] 37 (0, 0)) (by (with_reducible repeat (first | refine blk_drewN ?_ _ | refine blk_drew ?_ | refine blk_alloc ?_ _)); exact BK106003.out) hb); have n5_ := Aside0.mk (below_step (by repeat (first | (with_reducible first | exact HB.out | apply below_alloc | apply pw_below_drewN | apply below_drew1 | refine below_set ?_ GE106001.out | refine below_set ?_ GE106002.out | refine below_set ?_ GE106003.out) | exact HB.out)) hb); clear HO_106004000; clear HO_106004001; clear BK106001; clear BK106002; clear BK106003; clear HB; have HO_106004000 := n0_; have HO_106004001 := n1_; have BK106001 := n2_; have BK106002 := n3_; have BK106003 := n4_; have HB := n5_; clear n0_ n1_ n2_ n3_ n4_ n5_; (try clear hb); (try clear hb2); (try clear hk); (try clear hi); have hnb42 := NB106003_106002.out; have hnc42 := NB106002_106003.out; have hcz43_0 : w41.cell? ⟨gb106003, 0, none⟩ = some (u106004000) := (blk_cell BK106003.out 0).trans rfl; have hcz43_1 : w41.cell? ⟨gb106003, 1, none⟩ = some (u106004001) := (blk_cell BK106003.out 1).trans rfl; have hfz43_0 := blk_frozen BK106003.out 0; have hfz43_1 := blk_frozen BK106003.out 1) | ((with_reducible refine gate_builtin (b := .append) (xs := #[.tmp 66, .tmp 68]) rfl ?_); at_builtin; refine Kd.R_append (Kd.int .i64) (w0 := w) w.heap.size rfl (.tmp 66) (.tmp 68) 26 3 (.int .i64 0) 8 rfl Try.underlying26 info3 rfl (by decide) (by omega) u106004001 x106004001_2 1 [.int .i64 1] (fun k_ => some k_ ≠ (u106004000 : Value).ownBlock) (fun _ => False) rfl rfl ?aP (fun _ hk => hk.elim) ?aF ?aO ?aB ?aS ?aL ?_; (case aP => exact rfl); (case aB => exact (by repeat (first | (with_reducible first | exact HB.out | apply below_alloc | apply pw_below_drewN | apply below_drew1 | refine below_set ?_ GE106001.out | refine below_set ?_ GE106002.out | refine below_set ?_ GE106003.out) | exact HB.out))); (case aF => exact (fun k_ hk => Kd.fresh' (Kd.R_lt (by (with_reducible repeat (first | apply Kd.R_alloc | apply Kd.R_drewN | apply Kd.R_drew)); exact HO_106004000.out)) k_ hk)); (case aO => exact (by (with_reducible repeat (first | apply Kd.R_alloc | apply Kd.R_drewN | apply Kd.R_drew)); exact HO_106004001.out)); (case aS => exact (below_size (by repeat (first | (with_reducible first | exact HB.out | apply below_alloc | apply pw_below_drewN | apply below_drew1 | refine below_set ?_ GE106001.out | refine below_set ?_ GE106002.out | refine below_set ?_ GE106003.out) | exact HB.out)))); (case aL => have := LMc37.out; omega); intro v106019 w44 ho hb hg hat; rw [← Ny106018.out] at ho; have n0_ := Aside0.mk (Kd.R_after (ok := (fun _ => True)) (by (with_reducible repeat (first | apply Kd.R_alloc | apply Kd.R_drewN | apply Kd.R_drew)); exact Kd.R_mono HO_106004000.out (fun _ hk => ⟨trivial, hk⟩)) hg hat); have n1_ := Aside0.mk (blk_grown (g := gb106001) (o := .cells #[.slice A0_0 l0_0.length c0_0, .slice A0_1 l0_1.length c0_1, .int .i64 a0_2] 35 (0, 0)) (by (with_reducible repeat (first | refine blk_drewN ?_ _ | refine blk_drew ?_ | refine blk_alloc ?_ _)); exact BK106001.out) hg (Kd.R_ne HO_106004001.out BK106001.out (by decide))); have n2_ := Aside0.mk (blk_grown (g := gb106002) (o := .cells #[.slice none 0 0, .slice none 0 0] 37 (0, 0)) (by (with_reducible repeat (first | refine blk_drewN ?_ _ | refine blk_drew ?_ | refine blk_alloc ?_ _)); exact BK106002.out) hg (Kd.R_ne HO_106004001.out BK106002.out (by decide))); have n3_ := Aside0.mk (blk_grown (g := gb106003) (o := .cells #[u106004000, u106004001] 37 (0, 0)) (by (with_reducible repeat (first | refine blk_drewN ?_ _ | refine blk_drew ?_ | refine blk_alloc ?_ _)); exact BK106003.out) hg (Kd.R_ne HO_106004001.out BK106003.out (by decide))); have n4_ := Aside0.mk (hb); have n5_ := Aside0.mk (ho); clear HO_106004000; clear BK106001; clear BK106002; clear BK106003; clear HB; clear HO_106004001; have HO_106004000 := n0_; have BK106001 := n1_; have BK106002 := n2_; have BK106003 := n3_; have HB := n4_; have HO106020 := n5_; clear n0_ n1_ n2_ n3_ n4_ n5_; clear ho hb hg hat; obtain ⟨Ao45, co45, eo45⟩ := Kd.R_slice HO106020.out; subst eo45; have hcz46_0 : w44.cell? ⟨gb106003, 0, none⟩ = some (u106004000) := (blk_cell BK106003.out 0).trans rfl; have hcz46_1 : w44.cell? ⟨gb106003, 1, none⟩ = some (u106004001) := (blk_cell BK106003.out 1).trans rfl; have hfz46_0 := blk_frozen BK106003.out 0; have hfz46_1 := blk_frozen BK106003.out 1))
         go_roundg k2
         case measure => have := HK1.out; have := HK2.out; omega
         case rel => exact ⟨(x1_2), (wrap64 (x9_2 + 1)), (y106018), (.slice Ao45 y106018.length co45), (by first | rfl | (simp; done) | (simp [*]; done)), (by first | rfl | (simp; done) | (simp [*]; done)), H', ⟨by have := HK1.out; have := HK2.out; omega⟩, ⟨by (with_reducible repeat (first | apply Kd.R_alloc | apply Kd.R_drewN | apply Kd.R_drew)); exact Kd.R_mono (Kd.R_far (p := ⟨gb106003, 1, none⟩) (Kd.R_types HO_106004000.out BK106003.out (by decide)) (fun _ hk => hk.2) (.slice Ao45 y106018.length co45)) (fun _ hk => hk.1.2)⟩, ⟨by (with_reducible repeat (first | apply Kd.R_alloc | apply Kd.R_drewN | apply Kd.R_drew)); exact Kd.R_mono (Kd.R_far (p := ⟨gb106003, 1, none⟩) (Kd.R_types HO106020.out BK106003.out (by decide)) (fun _ hk => hk.2) (.slice Ao45 y106018.length co45)) (fun _ hk => hk.1)⟩, ⟨by (with_reducible repeat (first | refine blk_drewN ?_ _ | refine blk_drew ?_ | refine blk_alloc ?_ _)); refine blk_far ?_ NB106001_106003.out _; (with_reducible repeat (first | refine blk_drewN ?_ _ | refine blk_drew ?_ | refine blk_alloc ?_ _)); exact BK106001.out⟩, ⟨by (with_reducible repeat (first | refine blk_drewN ?_ _ | refine blk_drew ?_ | refine blk_alloc ?_ _)); refine blk_far ?_ NB106002_106003.out _; (with_reducible repeat (first | refine blk_drewN ?_ _ | refine blk_drew ?_ | refine blk_alloc ?_ _)); exact BK106002.out⟩, ⟨by (with_reducible repeat (first | refine blk_drewN ?_ _ | refine blk_drew ?_ | refine blk_alloc ?_ _)); refine blk_put (cs := #[u106004000, u106004001]) ?_ 1 _ rfl; (with_reducible repeat (first | refine blk_drewN ?_ _ | refine blk_drew ?_ | refine blk_alloc ?_ _)); exact BK106003.out⟩, ⟨by repeat (first | (with_reducible first | exact HB.out | apply below_alloc | apply pw_below_drewN | apply below_drew1 | refine below_set ?_ GE106001.out | refine below_set ?_ GE106002.out | refine below_set ?_ GE106003.out) | exact HB.out)⟩⟩
        ·rw [if_neg c37] at H
         exact absurd H (by simp)
      ·rw [if_neg c24] at H
       have c24b0 : decide (x9_2 ≤ 3) = false := decide_eq_false c24
       clear c24
       simp only [Option.some.injEq, Prod.mk.injEq] at H
       obtain ⟨rfl, rfl⟩ := H
       have hnb47 := NB106003_106001.out
       have hnc47 := NB106001_106003.out
       have hnb48 := NB106003_106002.out
       have hnc48 := NB106002_106003.out
       have hcz49_0 : wr.cell? ⟨gb106003, 0, none⟩ = some (u106004000) := (blk_cell BK106003.out 0).trans rfl
       have hcz49_1 : wr.cell? ⟨gb106003, 1, none⟩ = some (u106004001) := (blk_cell BK106003.out 1).trans rfl
       have hfz49_0 := blk_frozen BK106003.out 0
       have hfz49_1 := blk_frozen BK106003.out 1
       obtain ⟨Ao50, co50, eo50⟩ := Kd.R_slice HO_106004000.out
       subst eo50
       have hnb51 := NB106002_106001.out
       have hnc51 := NB106001_106002.out
       have hcz52_0 : wr.cell? ⟨gb106002, 0, none⟩ = some (.slice none 0 0) := (blk_cell BK106002.out 0).trans rfl
       have hcz52_1 : wr.cell? ⟨gb106002, 1, none⟩ = some (.slice none 0 0) := (blk_cell BK106002.out 1).trans rfl
       have hfz52_0 := blk_frozen BK106002.out 0
       have hfz52_1 := blk_frozen BK106002.out 1
       obtain ⟨Ao53, co53, eo53⟩ := Kd.R_slice HO_106004001.out
       subst eo53
       go_wp2
       refine bodyPost_ret (results_cell_row rfl _ _ gb106002 37 #[.slice Ao50 x106004000_1.length co50, .slice Ao53 x106004001_2.length co53] (0, 0) _ rfl (by (with_reducible repeat (first | refine blk_drewN ?_ _ | refine blk_drew ?_ | refine blk_alloc ?_ _)); refine blk_put (cs := #[.slice Ao50 x106004000_1.length co50, .slice none 0 0]) ?_ 1 _ rfl; (with_reducible repeat (first | refine blk_drewN ?_ _ | refine blk_drew ?_ | refine blk_alloc ?_ _)); refine blk_put (cs := #[.slice none 0 0, .slice none 0 0]) ?_ 0 _ rfl; (with_reducible repeat (first | refine blk_drewN ?_ _ | refine blk_drew ?_ | refine blk_alloc ?_ _)); exact BK106002.out) Try.underlying37 rfl (by kernel_rfl)) rfl ?_
       exact ⟨_, _, by first | rfl | (simp [errW_none, errW_some] <;> rfl) | (simp [*, errW_none, errW_some] <;> rfl), by (with_reducible repeat (first | apply Kd.R_alloc | apply Kd.R_drewN | apply Kd.R_drew)); exact Kd.R_mono (Kd.R_far (p := ⟨gb106002, 1, none⟩) (Kd.R_far (p := ⟨gb106002, 0, none⟩) (Kd.R_types HO_106004000.out BK106002.out (by decide)) (fun _ hk => hk.2) (.slice Ao50 x106004000_1.length co50)) (fun _ hk => hk.2) (.slice Ao53 x106004001_2.length co53)) (fun _ hk => hk.1), by (with_reducible repeat (first | apply Kd.R_alloc | apply Kd.R_drewN | apply Kd.R_drew)); exact Kd.R_mono (Kd.R_far (p := ⟨gb106002, 1, none⟩) (Kd.R_far (p := ⟨gb106002, 0, none⟩) (Kd.R_types HO_106004001.out BK106002.out (by decide)) (fun _ hk => hk.2) (.slice Ao50 x106004000_1.length co50)) (fun _ hk => hk.2) (.slice Ao53 x106004001_2.length co53)) (fun _ hk => hk.1), by repeat (first | (with_reducible first | exact HB.out | apply below_alloc | apply pw_below_drewN | apply below_drew1 | refine below_set ?_ GE106001.out | refine below_set ?_ GE106002.out | refine below_set ?_ GE106003.out) | exact HB.out)⟩

end Go.Proofs.Ytodfnelilhjoeaa.Pr

