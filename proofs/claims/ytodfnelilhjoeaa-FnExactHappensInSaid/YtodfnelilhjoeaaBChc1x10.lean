/- The texts of one claim, put together by a program of this session. -/
import Derived.Deep.LoopGhost
import Derived.Deep.RegionHeld3
import Derived.Test.YtodfnelilhjoeaaBChc1x1
import Derived.Test.YtodfnelilhjoeaaBChc1x2
import Derived.Test.YtodfnelilhjoeaaBChc1x3
import Derived.Test.YtodfnelilhjoeaaBChc1x4
import Derived.Test.YtodfnelilhjoeaaBChc1x6
import Derived.Test.YtodfnelilhjoeaaBChc1x7
import Derived.Test.YtodfnelilhjoeaaBChc1x8
import Derived.Test.YtodfnelilhjoeaaBChc1x9
namespace Go.Proofs.Ytodfnelilhjoeaa.Pr
open Go.RowKit Go.Proofs.YtodfnelilhjoeaaW.PrintWords Go.Proofs.YtodfnelilhjoeaaW.PrintLast Go.Proofs.YtodfnelilhjoeaaW.PrintMore
attribute [local go_sem] max2_int min2_int max_two min_two max_three min_three max_four min_four
set_option linter.unusedVariables false
set_option linter.unusedSimpArgs false

/-! ### impl_ShowOk: function 72 (by hand) -/
-- IMPORT Derived.Test.YtodfnelilhjoeaaUNodes
-- IMPORT Derived.Test.YtodfnelilhjoeaaUQuiet
-- IMPORT Derived.Test.YtodfnelilhjoeaaUWatched
-- IMPORT Derived.Deep.LoopGhost
open Go.Proofs.Ytodfnelilhjoeaa.Ni
def nodeW (ns : List S116) (n : S116) : Bool := !(n.f1.any fun x => !watchedB ns n.f1 x)
def pshowB (ns : List S116) (ts : List S90) (z : Int) : Bool := areNodesB ns && areTiesB ns ts && !(decide (z < 1)) && !(decide (10 < z)) && ns.all (nodeW ns)
def impl_ShowOk.f (l0_0 : List (S116)) (l0_1 : List (S90)) (a0_2 : Int) : Option Bool := if fitN l0_0 = true then some (pshowB l0_0 l0_1 a0_2) else none
set_option maxHeartbeats 8000000 in
theorem impl_ShowOk_1.clo (k : Nat) (hk : 2 ^ 64 ≤ k) (B D : Nat) (A0_0 : Option Addr) (c0_0 : Nat) (l0_0 : List S116) (A0_1 : Option Addr) (c0_1 : Nat) (l0_1 : List S90) (a0_2 : Int) (An : Option Addr) (cn : Nat) (lb : List Int) (x : Int) (W : World)
    (h0 : W.cell? ⟨B, 0, none⟩ = some (.slice A0_0 l0_0.length c0_0)) (h1 : W.cell? ⟨B, 1, none⟩ = some (.slice A0_1 l0_1.length c0_1)) (h2 : W.cell? ⟨B, 2, none⟩ = some (.int .i64 a0_2)) (h3 : W.cell? ⟨D, 1, none⟩ = some (.slice An lb.length cn))
    (hr0_0 : Kd.C k116 W A0_0 l0_0.length l0_0) (hc0_0 : l0_0.length ≤ c0_0) (hr0_1 : Kd.C k90 W A0_1 l0_1.length l0_1) (hc0_1 : l0_1.length ≤ c0_1) (hrn : Kd.C (Kd.int .i64) W An lb.length lb) (hcn : lb.length ≤ cn)
    (hf : impl_isWatched.f k l0_0 l0_1 a0_2 lb x = some (watchedB l0_0 lb x)) :
    Calls Try.prog 124 #[.int .i64 x, .pointer (some ⟨B, 0, none⟩), .pointer (some ⟨D, 0, none⟩)] W fun e w' => e = .returned (.bool (!watchedB l0_0 lb x)) ∧ Below W.heap.size W w' := by
  have hltB : B < W.heap.size := World.block_lt_of_cell? W _ h0
  have hltD : D < W.heap.size := World.block_lt_of_cell? W _ h3
  have HC := Aside0.mk (impl_isWatched.calls k A0_0 c0_0 l0_0 A0_1 c0_1 l0_1 a0_2 An cn lb x _ W hr0_0 hc0_0 hr0_1 hc0_1 hrn hcn hf)
  have hu := Try.underlying35
  have hu2 := Try.underlying116
  clear hr0_0 hr0_1 hrn hf hc0_0 hc0_1 hcn
  cases b : watchedB l0_0 lb x
  all_goals
    rw [b] at HC
    clear b
    go_enter Try.func124, Try.ntmps124
    go_wp2_with (go_at_call 125; refine HC.out.mono ?_; rintro e w' ⟨rfl, hb⟩)
    go_ret
    exact ⟨rfl, hb⟩
set_option maxHeartbeats 8000000 in
set_option maxRecDepth 100000 in
theorem impl_ShowOk.calls (A0_0 : Option Addr) (c0_0 : Nat) (l0_0 : List (S116)) (A0_1 : Option Addr) (c0_1 : Nat) (l0_1 : List (S90)) (a0_2 : Int) (r : Bool) (w : World) (hr0_0 : Kd.C k116 w A0_0 l0_0.length l0_0) (hc0_0 : l0_0.length ≤ c0_0) (hr0_1 : Kd.C k90 w A0_1 l0_1.length l0_1) (hc0_1 : l0_1.length ≤ c0_1) (h : impl_ShowOk.f l0_0 l0_1 a0_2 = some r) :
    Calls Try.prog 72 #[.agg #[.slice A0_0 l0_0.length c0_0, .slice A0_1 l0_1.length c0_1, .int .i64 a0_2]] w fun e w' => e = .returned (.bool r) ∧ Below w.heap.size w w' := by
  by_cases hfit : fitN l0_0 = true
  case neg => rw [impl_ShowOk.f, if_neg hfit] at h; exact absurd h (by simp)
  rw [impl_ShowOk.f, if_pos hfit] at h
  obtain rfl := Option.some.inj h
  have hfi := fitN_iff hfit
  have hL : l0_0.length ≤ 9223372036854775807 := hr0_0.2.1
  have HRn := Aside0.mk hr0_0
  have HRt := Aside0.mk hr0_1
  have HCn := Aside0.mk hc0_0
  have HCt := Aside0.mk hc0_1
  have HFI := Aside0.mk hfi
  have B1 := Aside0.mk (below_alloc (Below.refl w.heap.size w) (.cells #[.slice A0_0 l0_0.length c0_0, .slice A0_1 l0_1.length c0_1, .int .i64 a0_2] 35))
  have HK := Aside0.mk fun (W : World) (hA : Below (w.alloc (.cells #[.slice A0_0 l0_0.length c0_0, .slice A0_1 l0_1.length c0_1, .int .i64 a0_2] 35)).heap.size (w.alloc (.cells #[.slice A0_0 l0_0.length c0_0, .slice A0_1 l0_1.length c0_1, .int .i64 a0_2] 35)) W) => And.intro (B1.out.trans (hA.mono B1.out.size)) (And.intro (kcell hA (show _ = some (.slice A0_0 l0_0.length c0_0) from showCell0 w _ _ _ _)) (And.intro (kcell hA (showCell1 w _ _ _ _)) (And.intro (kcell hA (showCell2 w _ _ _ _)) (show w.heap.size < W.heap.size from Nat.lt_of_lt_of_le (by simp) hA.size))))
  have HN := Aside0.mk fun (W : World) (hb : Below w.heap.size w W) => impl_areNodes.calls (2 ^ 65) A0_0 c0_0 l0_0 A0_1 c0_1 l0_1 a0_2 _ W (Kd.C_below hr0_0 hb) hc0_0 (Kd.C_below hr0_1 hb) hc0_1 (areNodes_f l0_0 l0_1 a0_2 hfi (2 ^ 65) (Nat.le_refl _))
  have HT := Aside0.mk fun (W : World) (hb : Below w.heap.size w W) => impl_areTies.calls A0_0 c0_0 l0_0 A0_1 c0_1 l0_1 a0_2 _ W (Kd.C_below hr0_0 hb) hc0_0 (Kd.C_below hr0_1 hb) hc0_1 rfl
  have hlb : areNodesB l0_0 = true → ∀ n ∈ l0_0, ∀ x ∈ n.f1, litOk x = true := areNodesB_lit
  clear hr0_0 hr0_1 hc0_0 hc0_1 h hfi hfit
  have hu := Try.underlying35
  have hu2 := Try.underlying116
  cases b1 : areNodesB l0_0 with
  | false =>
    rw [b1] at HN
    have HF := Aside0.mk (show pshowB l0_0 l0_1 a0_2 = false by simp [pshowB, b1])
    clear hlb b1
    go_enter Try.func72, Try.ntmps72
    go_wp2_with (go_at_call 121; refine (HN.out _ B1.out).mono ?_; rintro e w1 ⟨rfl, hb⟩; obtain ⟨hB, hc0, hc1, hc2, hS⟩ := HK.out _ hb)
    go_ret
    exact ⟨by rw [HF.out]; rfl, hB⟩
  | true =>
  rw [b1] at HN
  have HLB := Aside0.mk (hlb b1)
  clear hlb
  cases b2 : areTiesB l0_0 l0_1 with
  | false =>
    rw [b2] at HT
    have HF := Aside0.mk (show pshowB l0_0 l0_1 a0_2 = false by simp [pshowB, b2])
    clear b1 b2
    go_enter Try.func72, Try.ntmps72
    go_wp2_with (first | (go_at_call 121; refine (HN.out _ B1.out).mono ?_; rintro e w1 ⟨rfl, hA⟩; obtain ⟨hB, hc0, hc1, hc2, hS⟩ := HK.out _ hA) | (go_at_call 122; refine (HT.out _ hB).mono ?_; rintro e w2 ⟨rfl, hb⟩; replace hA := hA.trans (hb.mono hA.size); clear hB hc0 hc1 hc2 hS; obtain ⟨hB, hc0, hc1, hc2, hS⟩ := HK.out _ hA; clear hb))
    go_ret
    exact ⟨by rw [HF.out]; rfl, hB⟩
  | true =>
  rw [b2] at HT
  cases b3 : decide (a0_2 < 1) with
  | true =>
    have HF := Aside0.mk (show pshowB l0_0 l0_1 a0_2 = false by simp [pshowB, b3])
    clear b1 b2
    go_enter Try.func72, Try.ntmps72
    go_wp2_with (first | (go_at_call 121; refine (HN.out _ B1.out).mono ?_; rintro e w1 ⟨rfl, hA⟩; obtain ⟨hB, hc0, hc1, hc2, hS⟩ := HK.out _ hA) | (go_at_call 122; refine (HT.out _ hB).mono ?_; rintro e w2 ⟨rfl, hb⟩; replace hA := hA.trans (hb.mono hA.size); clear hB hc0 hc1 hc2 hS; obtain ⟨hB, hc0, hc1, hc2, hS⟩ := HK.out _ hA; clear hb))
    go_ret
    exact ⟨by rw [HF.out]; rfl, hB⟩
  | false =>
  cases b4 : decide (10 < a0_2) with
  | true =>
    have HF := Aside0.mk (show pshowB l0_0 l0_1 a0_2 = false by simp [pshowB, b4])
    clear b1 b2
    go_enter Try.func72, Try.ntmps72
    go_wp2_with (first | (go_at_call 121; refine (HN.out _ B1.out).mono ?_; rintro e w1 ⟨rfl, hA⟩; obtain ⟨hB, hc0, hc1, hc2, hS⟩ := HK.out _ hA) | (go_at_call 122; refine (HT.out _ hB).mono ?_; rintro e w2 ⟨rfl, hb⟩; replace hA := hA.trans (hb.mono hA.size); clear hB hc0 hc1 hc2 hS; obtain ⟨hB, hc0, hc1, hc2, hS⟩ := HK.out _ hA; clear hb))
    go_ret
    exact ⟨by rw [HF.out]; rfl, hB⟩
  | false =>
  have HF := Aside0.mk (show pshowB l0_0 l0_1 a0_2 = l0_0.all (nodeW l0_0) by simp [pshowB, b1, b2, b3, b4])
  clear b1 b2
  go_enter Try.func72, Try.ntmps72
  go_wp2_with (first | (go_at_call 121; refine (HN.out _ B1.out).mono ?_; rintro e w1 ⟨rfl, hA⟩; obtain ⟨hB, hc0, hc1, hc2, hS⟩ := HK.out _ hA) | (go_at_call 122; refine (HT.out _ hB).mono ?_; rintro e w2 ⟨rfl, hb⟩; replace hA := hA.trans (hb.mono hA.size); clear hB hc0 hc1 hc2 hS; obtain ⟨hB, hc0, hc1, hc2, hS⟩ := HK.out _ hA; clear hb))
  have HB0 := Aside0.mk hB
  have HX0 := Aside0.mk (And.intro hc0 (And.intro hc1 hc2))
  have HS0 := Aside0.mk hS
  clear hA hB hc0 hc1 hc2 hS
  go_loopg [4, 26] l0_0.length (fun gg _ s26 wr => ∃ kk : Nat, Aside0 (kk ≤ l0_0.length) ∧ Aside0 (l0_0.length - kk ≤ gg) ∧ s26 = .int .i64 kk ∧ Aside0 (Below w.heap.size w wr) ∧ Aside0 (w.heap.size < wr.heap.size) ∧ Aside0 (wr.cell? ⟨w.heap.size, 0, none⟩ = some (.slice A0_0 l0_0.length c0_0) ∧ wr.cell? ⟨w.heap.size, 1, none⟩ = some (.slice A0_1 l0_1.length c0_1) ∧ wr.cell? ⟨w.heap.size, 2, none⟩ = some (.int .i64 a0_2)) ∧ Aside0 (l0_0.all (nodeW l0_0) = (l0_0.drop kk).all (nodeW l0_0)))
  case atStart => exact ⟨0, ⟨Nat.zero_le _⟩, ⟨by omega⟩, rfl, HB0, HS0, HX0, ⟨rfl⟩⟩
  case round =>
    obtain ⟨kk, HK', HG, rfl, HBr, HS, HX, HN'⟩ := hrel
    have hsz := HS.out
    obtain ⟨hb0, hb1, hb2_⟩ := HX.out
    by_cases hlt : kk < l0_0.length
    · have hltz : (kk : Int) < (l0_0.length : Int) := by omega
      obtain ⟨ad, Am, cm, e1, hm0, hm1, hm2, lm, gm⟩ := at_T116 HRn.out (kk : Int) (by omega) hltz
      cases e1
      have HDR := Aside0.mk (drop_cons hlt z116)
      have hmem := Aside0.mk (getD_mem hlt z116)
      rw [← rdN_nat] at HDR hmem
      rw [Int.toNat_natCast] at hm0 hm1 hm2
      generalize rd_T116 l0_0 (kk : Int) = y at hm0 hm1 hm2 lm gm HDR hmem
      replace hm0 := kcell HBr.out hm0
      replace hm1 := kcell HBr.out hm1
      replace hm2 := kcell HBr.out hm2
      have hlta := World.block_lt_of_cell? wr _ hm0
      have LM := Aside0.mk lm
      have GM := Aside0.mk (Kd.C_below gm HBr.out)
      clear lm gm
      have B2 := Aside0.mk (below_alloc (Below.refl wr.heap.size wr) (.cells #[.string y.f0, .slice Am y.f1.length cm, .int .i64 y.f2] 116))
      have HC := Aside0.mk fun (W : World) (hb : Below wr.heap.size wr W) (hcell : W.cell? ⟨wr.heap.size, 1, none⟩ = some (.slice Am y.f1.length cm)) => slices_ContainsFunc_int_int.any (fun x => !watchedB l0_0 y.f1 x) 124 #[.pointer (some ⟨w.heap.size, 0, none⟩), .pointer (some ⟨wr.heap.size, 0, none⟩)] (enters_of Try.func124 (by kernel_rfl) rfl) Am cm y.f1 W (Kd.C_below GM.out hb)
        (fun W' x hx hb' => impl_ShowOk_1.clo (2 ^ 64) (Nat.le_refl _) w.heap.size wr.heap.size (some ad) c0_0 l0_0 A0_1 c0_1 l0_1 a0_2 Am cm y.f1 x W' (kcell hb' (kcell hb HX.out.1)) (kcell hb' (kcell hb HX.out.2.1)) (kcell hb' (kcell hb HX.out.2.2)) (kcell hb' hcell)
          (Kd.C_below (Kd.C_below (Kd.C_below HRn.out HBr.out) hb) hb') HCn.out (Kd.C_below (Kd.C_below (Kd.C_below HRt.out HBr.out) hb) hb') HCt.out (Kd.C_below (Kd.C_below GM.out hb) hb') LM.out
          (isWatched_f l0_0 l0_1 a0_2 y.f1 x (fun n hn => (HFI.out n hn).2) (HFI.out y hmem.out).2 (HLB.out y hmem.out x hx) (2 ^ 64) (Nat.le_refl _)))
      cases b5 : y.f1.any (fun x => !watchedB l0_0 y.f1 x) with
      | true =>
        rw [b5] at HC
        have HF2 := Aside0.mk (show pshowB l0_0 l0_1 a0_2 = false by
          rw [HF.out, HN'.out, HDR.out, List.all_cons, show nodeW l0_0 y = false by unfold nodeW; rw [b5]; rfl]; rfl)
        clear b5
        go_wp2_with fail
        refine (HC.out _ B2.out (by go_simp)).mono ?_
        rintro e w3 ⟨rfl, hb⟩
        have hb3 := B2.out.trans (hb.mono B2.out.size)
        go_wp2
        go_ret
        exact ⟨by rw [HF2.out]; rfl, HBr.out.trans (hb3.mono HBr.out.size)⟩
      | false =>
        rw [b5] at HC
        have HF2 := Aside0.mk (show l0_0.all (nodeW l0_0) = (l0_0.drop (kk + 1)).all (nodeW l0_0) by
          rw [HN'.out, HDR.out, List.all_cons, show nodeW l0_0 y = true by unfold nodeW; rw [b5]; rfl]; rfl)
        clear b5
        go_wp2_with fail
        refine (HC.out _ B2.out (by go_simp)).mono ?_
        rintro e w3 ⟨rfl, hb⟩
        have hb3 := B2.out.trans (hb.mono B2.out.size)
        go_wp2
        go_roundg (l0_0.length - (kk + 1))
        case measure => have := HG.out; omega
        case rel => exact ⟨kk + 1, ⟨by omega⟩, ⟨by omega⟩, by go_num, ⟨HBr.out.trans (hb3.mono HBr.out.size)⟩, ⟨by have := hb3.size; omega⟩, ⟨kcell hb3 hb0, kcell hb3 hb1, kcell hb3 hb2_⟩, HF2⟩
    · have hltz : ¬ (kk : Int) < (l0_0.length : Int) := by omega
      have : kk = l0_0.length := by have := HK'.out; omega
      subst this
      have HF2 := Aside0.mk (show pshowB l0_0 l0_1 a0_2 = true by
        rw [HF.out, HN'.out, List.drop_length]; rfl)
      go_wp2
      go_ret
      exact ⟨by rw [HF2.out]; rfl, HBr.out⟩

end Go.Proofs.Ytodfnelilhjoeaa.Pr

namespace Go.Proofs.Ytodfnelilhjoeaa.Pr
open Go.RowKit Go.Proofs.YtodfnelilhjoeaaW.PrintWords Go.Proofs.YtodfnelilhjoeaaW.PrintLast Go.Proofs.YtodfnelilhjoeaaW.PrintMore
attribute [local go_sem] max2_int min2_int max_two min_two max_three min_three max_four min_four
set_option linter.unusedVariables false
set_option linter.unusedSimpArgs false

/-! ### impl_freeTies: function 80 -/
def impl_freeTies.l0 : Nat → List Int → List (S90) → Int → Int → Option (List Int)
  | 0, _, _, _, _ => none
  | k + 1, x3, x7, x8, x9 => if x9 < x8 then (if 0 ≤ x9 then (if x9 < (x7.length : Int) then (if (rd_T90 x7 x9).f4 = true then (if x3.length < 17592186044416 then (impl_freeTies.l0 k (x3 ++ [x9]) x7 x8 (wrap64 (x9 + 1))) else (none)) else (impl_freeTies.l0 k x3 x7 x8 (wrap64 (x9 + 1)))) else (none)) else (none)) else (some x3)
def impl_freeTies.f (k : Nat) (l0_0 : List (S116)) (l0_1 : List (S90)) (a0_2 : Int) : Option (List Int) := impl_freeTies.l0 k ([] : List Int) l0_1 (l0_1.length : Int) 0
set_option maxHeartbeats 8000000 in
set_option maxRecDepth 100000 in
theorem impl_freeTies.calls (k : Nat) (A0_0 : Option Addr) (c0_0 : Nat) (l0_0 : List (S116)) (A0_1 : Option Addr) (c0_1 : Nat) (l0_1 : List (S90)) (a0_2 : Int) (r : List Int) (w : World) (hr0_0 : Kd.C k116 w A0_0 l0_0.length l0_0) (hc0_0 : l0_0.length ≤ c0_0) (hr0_1 : Kd.C k90 w A0_1 l0_1.length l0_1) (hc0_1 : l0_1.length ≤ c0_1) (h : impl_freeTies.f k l0_0 l0_1 a0_2 = some r) :
    Calls Try.prog 80 #[.agg #[.slice A0_0 l0_0.length c0_0, .slice A0_1 l0_1.length c0_1, .int .i64 a0_2]] w fun e w' => ∃ v0_ : Value, e = .returned (v0_) ∧ Kd.R (Kd.int .i64) 3 w' w.heap.size (fun _ => True) v0_ r ∧ Below w.heap.size w w' := by
  have hu35 := Try.underlying35
  have hu90 := Try.underlying90
  have HR0_0 := Aside0.mk hr0_0
  have HC0_0 := Aside0.mk hc0_0
  clear hr0_0 hc0_0
  have HR0_1 := Aside0.mk hr0_1
  have HC0_1 := Aside0.mk hc0_1
  clear hr0_1 hc0_1
  have HB := Aside0.mk (Below.refl w.heap.size w)
  have H : (impl_freeTies.l0 k ([] : List Int) l0_1 (l0_1.length : Int) 0) = some r := h
  clear h
  have H' := Aside0.mk H
  clear H
  go_enter Try.func80, Try.ntmps80
  go_wp2_with (first | ((with_reducible refine gate_dst (N := 1) rfl ?_); refine box_event ?hg (N := 1) ?hd (cs := #[.slice A0_0 l0_0.length c0_0, .slice A0_1 l0_1.length c0_1, .int .i64 a0_2]) (t := 35) ?hr ?_; (case hd => rfl); (case hg => rfl); (case hr => first | (go_simp; done) | (go_simp; rfl)); intro gb80001 hg w2 hbox hb; have n0_ := Aside0.mk (below_step (by repeat (first | (with_reducible first | exact HB.out | apply below_alloc | apply pw_below_drewN | apply below_drew1) | exact HB.out)) hb); have n1_ := Aside0.mk (hbox); have n2_ := Aside0.mk ((by rw [hg]; exact (below_size (by repeat (first | (with_reducible first | exact HB.out | apply below_alloc | apply pw_below_drewN | apply below_drew1) | exact HB.out))) : w.heap.size ≤ gb80001)); have n3_ := Aside0.mk ((by rw [hg]; exact (below_size (by repeat (first | (with_reducible first | exact HB.out | apply below_alloc | apply pw_below_drewN | apply below_drew1) | exact HB.out))) : w.heap.size ≤ gb80001)); clear HB; have HB := n0_; have BK80001 := n1_; have GW80001 := n2_; have GE80001 := n3_; clear n0_ n1_ n2_ n3_; clear hb hbox hg; have hcz3_0 : w2.cell? ⟨gb80001, 0, none⟩ = some (.slice A0_0 l0_0.length c0_0) := (blk_cell BK80001.out 0).trans rfl; have hcz3_1 : w2.cell? ⟨gb80001, 1, none⟩ = some (.slice A0_1 l0_1.length c0_1) := (blk_cell BK80001.out 1).trans rfl; have hcz3_2 : w2.cell? ⟨gb80001, 2, none⟩ = some (.int .i64 a0_2) := (blk_cell BK80001.out 2).trans rfl; have hfz3_0 := blk_frozen BK80001.out 0; have hfz3_1 := blk_frozen BK80001.out 1; have hfz3_2 := blk_frozen BK80001.out 2))
  go_loopg [3, 9] k (fun kq v3 v9 w' => ∃ (x3_1 : List Int) (x9_1 : Int), v9 = .int .i64 x9_1 ∧ Aside0 (impl_freeTies.l0 kq x3_1 l0_1 (l0_1.length : Int) x9_1 = some r) ∧ Aside0 (kq ≤ k) ∧ Aside0 (Kd.R (Kd.int .i64) 3 w' w.heap.size (fun _ => True) v3 x3_1) ∧ Aside0 (w'.heap[gb80001]? = some (.cells #[(.slice A0_0 l0_0.length c0_0), (.slice A0_1 l0_1.length c0_1), .int .i64 a0_2] 35 (0, 0))) ∧ Aside0 (Below w.heap.size w w'))
  case atStart => exact ⟨(([] : List Int)), (0), (by first | rfl | (simp; done) | (simp [*]; done)), H', ⟨Nat.le_refl _⟩, ⟨by first | exact Kd.R_nil _ _ _ _ _ | exact Kd.N_nil _ _ _ _ _ | exact Kd.V_nil _ _ _ _ _ | exact Kd.Q_nil _ _ _ _ _ | exact Kd.S_nil _ _ _ _ _⟩, ⟨by (with_reducible repeat (first | refine blk_drewN ?_ _ | refine blk_drew ?_ | refine blk_alloc ?_ _)); exact BK80001.out⟩, ⟨by repeat (first | (with_reducible first | exact HB.out | apply below_alloc | apply pw_below_drewN | apply below_drew1 | refine below_set ?_ GE80001.out) | exact HB.out)⟩⟩
  case round =>
    clear H'
    try clear p2
    try clear hcz3_0
    try clear hcz3_1
    try clear hcz3_2
    try clear hfz3_0
    try clear hfz3_1
    try clear hfz3_2
    obtain ⟨x3_1, x9_1, rfl, HA, HK1, HO_3, BK80001, HB⟩ := hrel
    cases gk with
    | zero => exact absurd HA.out (by simp [impl_freeTies.l0])
    | succ k1 =>
      have H := HA.out
      clear HA
      simp only [impl_freeTies.l0] at H
      by_cases c4 : x9_1 < (l0_1.length : Int)
      · rw [if_pos c4] at H
        have c4b0 : decide (x9_1 < (l0_1.length : Int)) = true := decide_eq_true c4
        clear c4
        by_cases c5 : 0 ≤ x9_1
        · rw [if_pos c5] at H
          have c5b0 : decide (0 ≤ x9_1) = true := decide_eq_true c5
          clear c5
          by_cases c6 : x9_1 < (l0_1.length : Int)
          · rw [if_pos c6] at H
            have c6b0 : decide (x9_1 < (l0_1.length : Int)) = true := decide_eq_true c6
            clear c6
            obtain ⟨bq7, hbq7⟩ : ∃ b_ : Bool, b_ = ((rd_T90 l0_1 x9_1).f4) := ⟨_, rfl⟩
            replace H : (if bq7 = true then (if x3_1.length < 17592186044416 then (impl_freeTies.l0 k1 (x3_1 ++ [x9_1]) l0_1 (l0_1.length : Int) (wrap64 (x9_1 + 1))) else (none)) else (impl_freeTies.l0 k1 x3_1 l0_1 (l0_1.length : Int) (wrap64 (x9_1 + 1)))) = some r := by rw [← hbq7] at H; exact H
            have Nbq7 := Aside0.mk hbq7
            clear hbq7
            by_cases c8 : bq7 = true
            · subst c8
              have H1 : (if x3_1.length < 17592186044416 then (impl_freeTies.l0 k1 (x3_1 ++ [x9_1]) l0_1 (l0_1.length : Int) (wrap64 (x9_1 + 1))) else (none)) = some r := by rw [if_pos rfl] at H; exact H
              clear H
              have H := H1
              clear H1
              by_cases c9 : x3_1.length < 17592186044416
              · rw [if_pos c9] at H
                have LMc9 := Aside0.mk c9
                clear c9
                obtain ⟨y80004, hy80004⟩ : ∃ y_ : List Int, y_ = (x3_1 ++ [x9_1]) := ⟨_, rfl⟩
                replace H : (impl_freeTies.l0 k1 y80004 l0_1 (l0_1.length : Int) (wrap64 (x9_1 + 1))) = some r := by first | (rw [hy80004]; with_reducible exact H) | (have H2_ := (Option.bind_some _ _).symm.trans H; rw [hy80004]; with_reducible exact H2_) | (have H2_ := (Option.bind_some _ _).symm.trans H; with_reducible exact H2_) | with_reducible exact H | (rw [hy80004]; exact H) | exact H
                have Ny80004 := Aside0.mk hy80004
                clear hy80004
                have H' := Aside0.mk H
                clear H
                have p80002 : 0 ≤ (x9_1 : Int) := of_decide_eq_true (by first | (with_reducible assumption) | assumption)
                have q80002 : x9_1 < (l0_1.length : Int) := of_decide_eq_true (by first | (with_reducible assumption) | assumption)
                obtain ⟨ad80002, e80002, hx80002_0, hx80002_1, hx80002_2, hx80002_3, hx80002_4⟩ := at_T90 HR0_1.out x9_1 p80002 q80002
                (try rw [← Nbq7.out] at hx80002_4)
                cases e80002
                replace hx80002_0 := (HB.out.cell (World.block_lt_of_cell? w _ hx80002_0)).trans hx80002_0
                replace hx80002_1 := (HB.out.cell (World.block_lt_of_cell? w _ hx80002_1)).trans hx80002_1
                replace hx80002_2 := (HB.out.cell (World.block_lt_of_cell? w _ hx80002_2)).trans hx80002_2
                replace hx80002_3 := (HB.out.cell (World.block_lt_of_cell? w _ hx80002_3)).trans hx80002_3
                replace hx80002_4 := (HB.out.cell (World.block_lt_of_cell? w _ hx80002_4)).trans hx80002_4
                replace p80002 := eq_true p80002
                replace q80002 := eq_true q80002
                go_wp2_with (first | ((with_reducible refine gate_dst (N := 5) rfl ?_); refine box_event ?hg (N := 5) ?hd (cs := #[.int .i64 0, .int .i64 0, .int .i64 0, .int .i64 0, .bool false]) (t := 90) ?hr ?_; (case hd => rfl); (case hg => rfl); (case hr => first | (go_simp; done) | (go_simp; rfl)); intro gb80003 hg w10 hbox hb; have n0_ := Aside0.mk (Kd.R_below (by (with_reducible repeat (first | apply Kd.R_alloc | apply Kd.R_drewN | apply Kd.R_drew)); exact HO_3.out) hb); have n1_ := Aside0.mk (blk_below (g := gb80001) (o := .cells #[.slice A0_0 l0_0.length c0_0, .slice (some ad80002) l0_1.length c0_1, .int .i64 a0_2] 35 (0, 0)) (by (with_reducible repeat (first | refine blk_drewN ?_ _ | refine blk_drew ?_ | refine blk_alloc ?_ _)); exact BK80001.out) hb); have n2_ := Aside0.mk (below_step (by repeat (first | (with_reducible first | exact HB.out | apply below_alloc | apply pw_below_drewN | apply below_drew1 | refine below_set ?_ GE80001.out) | exact HB.out)) hb); have n3_ := Aside0.mk (hbox); have n4_ := Aside0.mk ((by rw [hg]; exact (below_size (by repeat (first | (with_reducible first | exact HB.out | apply below_alloc | apply pw_below_drewN | apply below_drew1 | refine below_set ?_ GE80001.out) | exact HB.out))) : w.heap.size ≤ gb80003)); have n5_ := Aside0.mk ((by rw [hg]; exact (below_size (by repeat (first | (with_reducible first | exact HB.out | apply below_alloc | apply pw_below_drewN | apply below_drew1 | refine below_set ?_ GE80001.out) | exact HB.out))) : w.heap.size ≤ gb80003)); have n6_ := Aside0.mk ((by rw [hg]; exact Nat.ne_of_lt (blk_lt (g := gb80001) (o := .cells #[.slice A0_0 l0_0.length c0_0, .slice (some ad80002) l0_1.length c0_1, .int .i64 a0_2] 35 (0, 0)) (by (with_reducible repeat (first | refine blk_drewN ?_ _ | refine blk_drew ?_ | refine blk_alloc ?_ _)); exact BK80001.out)) : gb80001 ≠ gb80003)); have n7_ := Aside0.mk ((by rw [hg]; exact Nat.ne_of_gt (blk_lt (g := gb80001) (o := .cells #[.slice A0_0 l0_0.length c0_0, .slice (some ad80002) l0_1.length c0_1, .int .i64 a0_2] 35 (0, 0)) (by (with_reducible repeat (first | refine blk_drewN ?_ _ | refine blk_drew ?_ | refine blk_alloc ?_ _)); exact BK80001.out)) : gb80003 ≠ gb80001)); clear HO_3; clear BK80001; clear HB; have HO_3 := n0_; have BK80001 := n1_; have HB := n2_; have BK80003 := n3_; have GW80003 := n4_; have GE80003 := n5_; have NB80001_80003 := n6_; have NB80003_80001 := n7_; clear n0_ n1_ n2_ n3_ n4_ n5_ n6_ n7_; clear hb hbox hg; have hnb11 := NB80003_80001.out; have hnc11 := NB80001_80003.out; have hcz12_0 : w10.cell? ⟨gb80003, 0, none⟩ = some (.int .i64 0) := (blk_cell BK80003.out 0).trans rfl; have hcz12_1 : w10.cell? ⟨gb80003, 1, none⟩ = some (.int .i64 0) := (blk_cell BK80003.out 1).trans rfl; have hcz12_2 : w10.cell? ⟨gb80003, 2, none⟩ = some (.int .i64 0) := (blk_cell BK80003.out 2).trans rfl; have hcz12_3 : w10.cell? ⟨gb80003, 3, none⟩ = some (.int .i64 0) := (blk_cell BK80003.out 3).trans rfl; have hcz12_4 : w10.cell? ⟨gb80003, 4, none⟩ = some (.bool false) := (blk_cell BK80003.out 4).trans rfl; have hfz12_0 := blk_frozen BK80003.out 0; have hfz12_1 := blk_frozen BK80003.out 1; have hfz12_2 := blk_frozen BK80003.out 2; have hfz12_3 := blk_frozen BK80003.out 3; have hfz12_4 := blk_frozen BK80003.out 4) | ((with_reducible refine gate_builtin (b := .append) (xs := #[.tmp 16, .tmp 18]) rfl ?_); at_builtin; refine Kd.R_append (Kd.int .i64) (w0 := w) w.heap.size rfl (.tmp 16) (.tmp 18) 26 3 (.int .i64 0) 8 rfl Try.underlying26 info3 rfl (by decide) (by omega) u3 x3_1 x9_1 [.int .i64 x9_1] (fun _ => True) (fun _ => False) rfl (by first | (go_simp; done) | (go_simp; rfl)) ?aP (fun _ hk => hk.elim) ?aF ?aO ?aB ?aS ?aL ?_; (case aP => exact rfl); (case aB => exact (by repeat (first | (with_reducible first | exact HB.out | apply below_alloc | apply pw_below_drewN | apply below_drew1 | refine below_set ?_ GE80001.out | refine below_set ?_ GE80003.out) | exact HB.out))); (case aF => exact (fun _ _ => trivial)); (case aO => exact (by (with_reducible repeat (first | apply Kd.R_alloc | apply Kd.R_drewN | apply Kd.R_drew)); exact Kd.R_mono (Kd.R_far (p := ⟨gb80003, 4, none⟩) (Kd.R_far (p := ⟨gb80003, 3, none⟩) (Kd.R_far (p := ⟨gb80003, 2, none⟩) (Kd.R_far (p := ⟨gb80003, 1, none⟩) (Kd.R_far (p := ⟨gb80003, 0, none⟩) (Kd.R_types HO_3.out BK80003.out (by decide)) (fun _ hk => hk.2) (.int .i64 ((rd_T90 l0_1 x9_1).f0))) (fun _ hk => hk.2) (.int .i64 ((rd_T90 l0_1 x9_1).f1))) (fun _ hk => hk.2) (.int .i64 ((rd_T90 l0_1 x9_1).f2))) (fun _ hk => hk.2) (.int .i64 ((rd_T90 l0_1 x9_1).f3))) (fun _ hk => hk.2) (.bool true)) (fun _ hk => trivial))); (case aS => exact (below_size (by repeat (first | (with_reducible first | exact HB.out | apply below_alloc | apply pw_below_drewN | apply below_drew1 | refine below_set ?_ GE80001.out | refine below_set ?_ GE80003.out) | exact HB.out)))); (case aL => have := LMc9.out; omega); intro v80005 w13 ho hb hg hat; rw [← Ny80004.out] at ho; have n0_ := Aside0.mk (blk_grown (g := gb80001) (o := .cells #[.slice A0_0 l0_0.length c0_0, .slice (some ad80002) l0_1.length c0_1, .int .i64 a0_2] 35 (0, 0)) (by (with_reducible repeat (first | refine blk_drewN ?_ _ | refine blk_drew ?_ | refine blk_alloc ?_ _)); refine blk_far ?_ NB80001_80003.out _; (with_reducible repeat (first | refine blk_drewN ?_ _ | refine blk_drew ?_ | refine blk_alloc ?_ _)); refine blk_far ?_ NB80001_80003.out _; (with_reducible repeat (first | refine blk_drewN ?_ _ | refine blk_drew ?_ | refine blk_alloc ?_ _)); refine blk_far ?_ NB80001_80003.out _; (with_reducible repeat (first | refine blk_drewN ?_ _ | refine blk_drew ?_ | refine blk_alloc ?_ _)); refine blk_far ?_ NB80001_80003.out _; (with_reducible repeat (first | refine blk_drewN ?_ _ | refine blk_drew ?_ | refine blk_alloc ?_ _)); refine blk_far ?_ NB80001_80003.out _; (with_reducible repeat (first | refine blk_drewN ?_ _ | refine blk_drew ?_ | refine blk_alloc ?_ _)); exact BK80001.out) hg (Kd.R_ne HO_3.out BK80001.out (by decide))); have n1_ := Aside0.mk (blk_grown (g := gb80003) (o := .cells #[.int .i64 ((rd_T90 l0_1 x9_1).f0), .int .i64 ((rd_T90 l0_1 x9_1).f1), .int .i64 ((rd_T90 l0_1 x9_1).f2), .int .i64 ((rd_T90 l0_1 x9_1).f3), .bool true] 90 (0, 0)) (by (with_reducible repeat (first | refine blk_drewN ?_ _ | refine blk_drew ?_ | refine blk_alloc ?_ _)); refine blk_put (cs := #[.int .i64 ((rd_T90 l0_1 x9_1).f0), .int .i64 ((rd_T90 l0_1 x9_1).f1), .int .i64 ((rd_T90 l0_1 x9_1).f2), .int .i64 ((rd_T90 l0_1 x9_1).f3), .bool false]) ?_ 4 _ rfl; (with_reducible repeat (first | refine blk_drewN ?_ _ | refine blk_drew ?_ | refine blk_alloc ?_ _)); refine blk_put (cs := #[.int .i64 ((rd_T90 l0_1 x9_1).f0), .int .i64 ((rd_T90 l0_1 x9_1).f1), .int .i64 ((rd_T90 l0_1 x9_1).f2), .int .i64 0, .bool false]) ?_ 3 _ rfl; (with_reducible repeat (first | refine blk_drewN ?_ _ | refine blk_drew ?_ | refine blk_alloc ?_ _)); refine blk_put (cs := #[.int .i64 ((rd_T90 l0_1 x9_1).f0), .int .i64 ((rd_T90 l0_1 x9_1).f1), .int .i64 0, .int .i64 0, .bool false]) ?_ 2 _ rfl; (with_reducible repeat (first | refine blk_drewN ?_ _ | refine blk_drew ?_ | refine blk_alloc ?_ _)); refine blk_put (cs := #[.int .i64 ((rd_T90 l0_1 x9_1).f0), .int .i64 0, .int .i64 0, .int .i64 0, .bool false]) ?_ 1 _ rfl; (with_reducible repeat (first | refine blk_drewN ?_ _ | refine blk_drew ?_ | refine blk_alloc ?_ _)); refine blk_put (cs := #[.int .i64 0, .int .i64 0, .int .i64 0, .int .i64 0, .bool false]) ?_ 0 _ rfl; (with_reducible repeat (first | refine blk_drewN ?_ _ | refine blk_drew ?_ | refine blk_alloc ?_ _)); exact BK80003.out) hg (Kd.R_ne HO_3.out BK80003.out (by decide))); have n2_ := Aside0.mk (hb); have n3_ := Aside0.mk (ho); clear BK80001; clear BK80003; clear HB; clear HO_3; have BK80001 := n0_; have BK80003 := n1_; have HB := n2_; have HO80006 := n3_; clear n0_ n1_ n2_ n3_; clear ho hb hg hat))
                go_roundg k1
                case measure => have := HK1.out; omega
                case rel => exact ⟨(y80004), (wrap64 (x9_1 + 1)), (by first | rfl | (simp; done) | (simp [*]; done)), H', ⟨by have := HK1.out; omega⟩, ⟨by (with_reducible repeat (first | apply Kd.R_alloc | apply Kd.R_drewN | apply Kd.R_drew)); exact HO80006.out⟩, ⟨by (with_reducible repeat (first | refine blk_drewN ?_ _ | refine blk_drew ?_ | refine blk_alloc ?_ _)); exact BK80001.out⟩, ⟨by repeat (first | (with_reducible first | exact HB.out | apply below_alloc | apply pw_below_drewN | apply below_drew1 | refine below_set ?_ GE80001.out | refine below_set ?_ GE80003.out) | exact HB.out)⟩⟩
              · rw [if_neg c9] at H
                exact absurd H (by simp)
            · replace c8 := Bool.eq_false_iff.mpr c8
              subst c8
              have H1 : (impl_freeTies.l0 k1 x3_1 l0_1 (l0_1.length : Int) (wrap64 (x9_1 + 1))) = some r := by rw [if_neg (show ¬ (false = true) by decide)] at H; exact H
              clear H
              have H := H1
              clear H1
              have H' := Aside0.mk H
              clear H
              have p80002 : 0 ≤ (x9_1 : Int) := of_decide_eq_true (by first | (with_reducible assumption) | assumption)
              have q80002 : x9_1 < (l0_1.length : Int) := of_decide_eq_true (by first | (with_reducible assumption) | assumption)
              obtain ⟨ad80002, e80002, hx80002_0, hx80002_1, hx80002_2, hx80002_3, hx80002_4⟩ := at_T90 HR0_1.out x9_1 p80002 q80002
              (try rw [← Nbq7.out] at hx80002_4)
              cases e80002
              replace hx80002_0 := (HB.out.cell (World.block_lt_of_cell? w _ hx80002_0)).trans hx80002_0
              replace hx80002_1 := (HB.out.cell (World.block_lt_of_cell? w _ hx80002_1)).trans hx80002_1
              replace hx80002_2 := (HB.out.cell (World.block_lt_of_cell? w _ hx80002_2)).trans hx80002_2
              replace hx80002_3 := (HB.out.cell (World.block_lt_of_cell? w _ hx80002_3)).trans hx80002_3
              replace hx80002_4 := (HB.out.cell (World.block_lt_of_cell? w _ hx80002_4)).trans hx80002_4
              replace p80002 := eq_true p80002
              replace q80002 := eq_true q80002
              go_wp2_with (first | ((with_reducible refine gate_dst (N := 5) rfl ?_); refine box_event ?hg (N := 5) ?hd (cs := #[.int .i64 0, .int .i64 0, .int .i64 0, .int .i64 0, .bool false]) (t := 90) ?hr ?_; (case hd => rfl); (case hg => rfl); (case hr => first | (go_simp; done) | (go_simp; rfl)); intro gb80003 hg w14 hbox hb; have n0_ := Aside0.mk (Kd.R_below (by (with_reducible repeat (first | apply Kd.R_alloc | apply Kd.R_drewN | apply Kd.R_drew)); exact HO_3.out) hb); have n1_ := Aside0.mk (blk_below (g := gb80001) (o := .cells #[.slice A0_0 l0_0.length c0_0, .slice (some ad80002) l0_1.length c0_1, .int .i64 a0_2] 35 (0, 0)) (by (with_reducible repeat (first | refine blk_drewN ?_ _ | refine blk_drew ?_ | refine blk_alloc ?_ _)); exact BK80001.out) hb); have n2_ := Aside0.mk (below_step (by repeat (first | (with_reducible first | exact HB.out | apply below_alloc | apply pw_below_drewN | apply below_drew1 | refine below_set ?_ GE80001.out) | exact HB.out)) hb); have n3_ := Aside0.mk (hbox); have n4_ := Aside0.mk ((by rw [hg]; exact (below_size (by repeat (first | (with_reducible first | exact HB.out | apply below_alloc | apply pw_below_drewN | apply below_drew1 | refine below_set ?_ GE80001.out) | exact HB.out))) : w.heap.size ≤ gb80003)); have n5_ := Aside0.mk ((by rw [hg]; exact (below_size (by repeat (first | (with_reducible first | exact HB.out | apply below_alloc | apply pw_below_drewN | apply below_drew1 | refine below_set ?_ GE80001.out) | exact HB.out))) : w.heap.size ≤ gb80003)); have n6_ := Aside0.mk ((by rw [hg]; exact Nat.ne_of_lt (blk_lt (g := gb80001) (o := .cells #[.slice A0_0 l0_0.length c0_0, .slice (some ad80002) l0_1.length c0_1, .int .i64 a0_2] 35 (0, 0)) (by (with_reducible repeat (first | refine blk_drewN ?_ _ | refine blk_drew ?_ | refine blk_alloc ?_ _)); exact BK80001.out)) : gb80001 ≠ gb80003)); have n7_ := Aside0.mk ((by rw [hg]; exact Nat.ne_of_gt (blk_lt (g := gb80001) (o := .cells #[.slice A0_0 l0_0.length c0_0, .slice (some ad80002) l0_1.length c0_1, .int .i64 a0_2] 35 (0, 0)) (by (with_reducible repeat (first | refine blk_drewN ?_ _ | refine blk_drew ?_ | refine blk_alloc ?_ _)); exact BK80001.out)) : gb80003 ≠ gb80001)); clear HO_3; clear BK80001; clear HB; have HO_3 := n0_; have BK80001 := n1_; have HB := n2_; have BK80003 := n3_; have GW80003 := n4_; have GE80003 := n5_; have NB80001_80003 := n6_; have NB80003_80001 := n7_; clear n0_ n1_ n2_ n3_ n4_ n5_ n6_ n7_; clear hb hbox hg; have hnb15 := NB80003_80001.out; have hnc15 := NB80001_80003.out; have hcz16_0 : w14.cell? ⟨gb80003, 0, none⟩ = some (.int .i64 0) := (blk_cell BK80003.out 0).trans rfl; have hcz16_1 : w14.cell? ⟨gb80003, 1, none⟩ = some (.int .i64 0) := (blk_cell BK80003.out 1).trans rfl; have hcz16_2 : w14.cell? ⟨gb80003, 2, none⟩ = some (.int .i64 0) := (blk_cell BK80003.out 2).trans rfl; have hcz16_3 : w14.cell? ⟨gb80003, 3, none⟩ = some (.int .i64 0) := (blk_cell BK80003.out 3).trans rfl; have hcz16_4 : w14.cell? ⟨gb80003, 4, none⟩ = some (.bool false) := (blk_cell BK80003.out 4).trans rfl; have hfz16_0 := blk_frozen BK80003.out 0; have hfz16_1 := blk_frozen BK80003.out 1; have hfz16_2 := blk_frozen BK80003.out 2; have hfz16_3 := blk_frozen BK80003.out 3; have hfz16_4 := blk_frozen BK80003.out 4))
              go_roundg k1
              case measure => have := HK1.out; omega
              case rel => exact ⟨(x3_1), (wrap64 (x9_1 + 1)), (by first | rfl | (simp; done) | (simp [*]; done)), H', ⟨by have := HK1.out; omega⟩, ⟨by (with_reducible repeat (first | apply Kd.R_alloc | apply Kd.R_drewN | apply Kd.R_drew)); exact Kd.R_mono (Kd.R_far (p := ⟨gb80003, 4, none⟩) (Kd.R_far (p := ⟨gb80003, 3, none⟩) (Kd.R_far (p := ⟨gb80003, 2, none⟩) (Kd.R_far (p := ⟨gb80003, 1, none⟩) (Kd.R_far (p := ⟨gb80003, 0, none⟩) (Kd.R_types HO_3.out BK80003.out (by decide)) (fun _ hk => hk.2) (.int .i64 ((rd_T90 l0_1 x9_1).f0))) (fun _ hk => hk.2) (.int .i64 ((rd_T90 l0_1 x9_1).f1))) (fun _ hk => hk.2) (.int .i64 ((rd_T90 l0_1 x9_1).f2))) (fun _ hk => hk.2) (.int .i64 ((rd_T90 l0_1 x9_1).f3))) (fun _ hk => hk.2) (.bool false)) (fun _ hk => trivial)⟩, ⟨by (with_reducible repeat (first | refine blk_drewN ?_ _ | refine blk_drew ?_ | refine blk_alloc ?_ _)); refine blk_far ?_ NB80001_80003.out _; (with_reducible repeat (first | refine blk_drewN ?_ _ | refine blk_drew ?_ | refine blk_alloc ?_ _)); refine blk_far ?_ NB80001_80003.out _; (with_reducible repeat (first | refine blk_drewN ?_ _ | refine blk_drew ?_ | refine blk_alloc ?_ _)); refine blk_far ?_ NB80001_80003.out _; (with_reducible repeat (first | refine blk_drewN ?_ _ | refine blk_drew ?_ | refine blk_alloc ?_ _)); refine blk_far ?_ NB80001_80003.out _; (with_reducible repeat (first | refine blk_drewN ?_ _ | refine blk_drew ?_ | refine blk_alloc ?_ _)); refine blk_far ?_ NB80001_80003.out _; (with_reducible repeat (first | refine blk_drewN ?_ _ | refine blk_drew ?_ | refine blk_alloc ?_ _)); exact BK80001.out⟩, ⟨by repeat (first | (with_reducible first | exact HB.out | apply below_alloc | apply pw_below_drewN | apply below_drew1 | refine below_set ?_ GE80001.out | refine below_set ?_ GE80003.out) | exact HB.out)⟩⟩
          · rw [if_neg c6] at H
            exact absurd H (by simp)
        · rw [if_neg c5] at H
          exact absurd H (by simp)
      · rw [if_neg c4] at H
        have c4b0 : decide (x9_1 < (l0_1.length : Int)) = false := decide_eq_false c4
        clear c4
        obtain rfl := Option.some.inj H
        go_wp2
        go_ret
        exact ⟨_, by first | rfl | (simp [errW_none, errW_some] <;> rfl) | (simp [*, errW_none, errW_some] <;> rfl), by (with_reducible repeat (first | apply Kd.R_alloc | apply Kd.R_drewN | apply Kd.R_drew)); exact HO_3.out, by repeat (first | (with_reducible first | exact HB.out | apply below_alloc | apply pw_below_drewN | apply below_drew1 | refine below_set ?_ GE80001.out) | exact HB.out)⟩

end Go.Proofs.Ytodfnelilhjoeaa.Pr

namespace Go.Proofs.Ytodfnelilhjoeaa.Pr
open Go.RowKit Go.Proofs.YtodfnelilhjoeaaW.PrintWords Go.Proofs.YtodfnelilhjoeaaW.PrintLast Go.Proofs.YtodfnelilhjoeaaW.PrintMore
attribute [local go_sem] max2_int min2_int max_two min_two max_three min_three max_four min_four
set_option linter.unusedVariables false
set_option linter.unusedSimpArgs false

/-! ### impl_isChoice: function 73 -/
mutual
def impl_isChoice.j0 : Nat → List Int → Bool → List (S116) → List (S90) → Int → List Int → List Int → Option (Bool)
  | 0, _, _, _, _, _, _, _ => none
  | k + 1, x5, x23, x73002000, x73002001, x73002002, x73003000, x73003001 => if x23 = true then (some false) else (impl_isChoice.l0 k x5 (x5.length : Int) 0 x73002000 x73002001 x73002002 x73003000 x73003001)
def impl_isChoice.l0 : Nat → List Int → Int → Int → List (S116) → List (S90) → Int → List Int → List Int → Option (Bool)
  | 0, _, _, _, _, _, _, _, _ => none
  | k + 1, x24, x25, x26, x73002000, x73002001, x73002002, x73003000, x73003001 => if x26 < x25 then (if 0 ≤ x26 then (if x26 < (x24.length : Int) then (if x26 < (x73003000.length : Int) then (if 0 ≤ (rd x24 x26) then (if (rd x24 x26) < (x73002001.length : Int) then (if (rd x73003000 x26) < ((rd_T90 x73002001 (rd x24 x26)).f2) then (some false) else (if (rd x73003000 x26) > ((rd_T90 x73002001 (rd x24 x26)).f3) then (some false) else (impl_isChoice.l0 k x24 x25 (wrap64 (x26 + 1)) x73002000 x73002001 x73002002 x73003000 x73003001))) else (none)) else (none)) else (none)) else (none)) else (none)) else (impl_isChoice.l1 k x73003001 (x73003001.length : Int) 0 x73002000 x73002001 x73002002)
def impl_isChoice.l1 : Nat → List Int → Int → Int → List (S116) → List (S90) → Int → Option (Bool)
  | 0, _, _, _, _, _, _ => none
  | k + 1, x59, x60, x61, x73002000, x73002001, x73002002 => if x61 < x60 then (if 0 ≤ x61 then (if x61 < (x59.length : Int) then (if (rd x59 x61) = 1 then (if (rd x59 x61) = (-1) then ((impl_watcher.f x73002000 x73002001 x73002002 (wrap64 (x61 + 1))).bind fun t73012 => (if t73012 < 0 then (some false) else (impl_isChoice.l1 k x59 x60 (wrap64 (x61 + 1)) x73002000 x73002001 x73002002))) else (impl_isChoice.l1 k x59 x60 (wrap64 (x61 + 1)) x73002000 x73002001 x73002002)) else (if (rd x59 x61) = (-1) then ((impl_watcher.f x73002000 x73002001 x73002002 (wrap64 (x61 + 1))).bind fun t73013 => (if t73013 < 0 then (some false) else (impl_isChoice.l1 k x59 x60 (wrap64 (x61 + 1)) x73002000 x73002001 x73002002))) else (some false))) else (none)) else (none)) else (some true)
end
def impl_isChoice.f (k : Nat) (l0_0 : List (S116)) (l0_1 : List (S90)) (a0_2 : Int) (l1_0 : List Int) (l1_1 : List Int) : Option (Bool) := (impl_freeTies.f k l0_0 l0_1 a0_2).bind fun t73003 => (if (l1_0.length : Int) = (t73003.length : Int) then (impl_isChoice.j0 k t73003 ((l1_1.length : Int) != 3) l0_0 l0_1 a0_2 l1_0 l1_1) else (impl_isChoice.j0 k t73003 true l0_0 l0_1 a0_2 l1_0 l1_1))
set_option maxHeartbeats 8000000 in
set_option maxRecDepth 100000 in
theorem impl_isChoice.calls (k : Nat) (A0_0 : Option Addr) (c0_0 : Nat) (l0_0 : List (S116)) (A0_1 : Option Addr) (c0_1 : Nat) (l0_1 : List (S90)) (a0_2 : Int) (A1_0 : Option Addr) (c1_0 : Nat) (l1_0 : List Int) (A1_1 : Option Addr) (c1_1 : Nat) (l1_1 : List Int) (r : Bool) (w : World) (hr0_0 : Kd.C k116 w A0_0 l0_0.length l0_0) (hc0_0 : l0_0.length ≤ c0_0) (hr0_1 : Kd.C k90 w A0_1 l0_1.length l0_1) (hc0_1 : l0_1.length ≤ c0_1) (hr1_0 : Kd.C (Kd.int .i64) w A1_0 l1_0.length l1_0) (hc1_0 : l1_0.length ≤ c1_0) (hr1_1 : Kd.C (Kd.int .i64) w A1_1 l1_1.length l1_1) (hc1_1 : l1_1.length ≤ c1_1) (h : impl_isChoice.f k l0_0 l0_1 a0_2 l1_0 l1_1 = some r) :
    Calls Try.prog 73 #[.agg #[.slice A0_0 l0_0.length c0_0, .slice A0_1 l0_1.length c0_1, .int .i64 a0_2], .agg #[.slice A1_0 l1_0.length c1_0, .slice A1_1 l1_1.length c1_1]] w fun e w' => e = .returned (.bool r) ∧ Below w.heap.size w w' := by
  have hu35 := Try.underlying35
  have hu37 := Try.underlying37
  have HR0_0 := Aside0.mk hr0_0
  have HC0_0 := Aside0.mk hc0_0
  clear hr0_0 hc0_0
  have HR0_1 := Aside0.mk hr0_1
  have HC0_1 := Aside0.mk hc0_1
  clear hr0_1 hc0_1
  have HR1_0 := Aside0.mk hr1_0
  have HC1_0 := Aside0.mk hc1_0
  clear hr1_0 hc1_0
  have HR1_1 := Aside0.mk hr1_1
  have HC1_1 := Aside0.mk hc1_1
  clear hr1_1 hc1_1
  have HB := Aside0.mk (Below.refl w.heap.size w)
  have H : ((impl_freeTies.f k l0_0 l0_1 a0_2).bind fun t73003 => (if (l1_0.length : Int) = (t73003.length : Int) then (impl_isChoice.j0 k t73003 ((l1_1.length : Int) != 3) l0_0 l0_1 a0_2 l1_0 l1_1) else (impl_isChoice.j0 k t73003 true l0_0 l0_1 a0_2 l1_0 l1_1))) = some r := h
  clear h
  replace H := Option.bind_eq_some_iff.mp H
  obtain ⟨t73003, A30, H⟩ := H
  replace H : (if (l1_0.length : Int) = (t73003.length : Int) then (impl_isChoice.j0 k t73003 ((l1_1.length : Int) != 3) l0_0 l0_1 a0_2 l1_0 l1_1) else (impl_isChoice.j0 k t73003 true l0_0 l0_1 a0_2 l1_0 l1_1)) = some r := H
  have A3 := Aside0.mk A30
  clear A30
  have HC4 := Aside0.mk H
  clear H
  go_enter Try.func73, Try.ntmps73
  go_upto_region 2 with (first | ((with_reducible refine gate_dst (N := 2) rfl ?_); (try (refine gate_guard (by rfl) ?_; dsimp only)); refine box_event ?hg (N := 2) ?hd (cs := #[.slice A0_0 l0_0.length c0_0, .slice A0_1 l0_1.length c0_1, .int .i64 a0_2]) (t := 35) ?hr ?_; (case hd => rfl); (case hg => rfl); (case hr => first | (go_simp; done) | (go_simp; rfl)); intro gb73001 hg w5 hbox hb; have n0_ := Aside0.mk (below_step (by repeat (first | (with_reducible first | exact HB.out | apply below_alloc | apply pw_below_drewN | apply below_drew1) | exact HB.out)) hb); have n1_ := Aside0.mk (hbox); have n2_ := Aside0.mk ((by rw [hg]; exact (below_size (by repeat (first | (with_reducible first | exact HB.out | apply below_alloc | apply pw_below_drewN | apply below_drew1) | exact HB.out))) : w.heap.size ≤ gb73001)); have n3_ := Aside0.mk ((by rw [hg]; exact (below_size (by repeat (first | (with_reducible first | exact HB.out | apply below_alloc | apply pw_below_drewN | apply below_drew1) | exact HB.out))) : w.heap.size ≤ gb73001)); clear HB; have HB := n0_; have BK73001 := n1_; have GW73001 := n2_; have GE73001 := n3_; clear n0_ n1_ n2_ n3_; clear hb hbox hg) | ((with_reducible refine gate_dst (N := 3) rfl ?_); (try (refine gate_guard (by rfl) ?_; dsimp only)); refine box_event ?hg (N := 3) ?hd (cs := #[.slice A1_0 l1_0.length c1_0, .slice A1_1 l1_1.length c1_1]) (t := 37) ?hr ?_; (case hd => rfl); (case hg => rfl); (case hr => first | (go_simp; done) | (go_simp; rfl)); intro gb73002 hg w6 hbox hb; have n0_ := Aside0.mk (blk_below (g := gb73001) (o := .cells #[.slice A0_0 l0_0.length c0_0, .slice A0_1 l0_1.length c0_1, .int .i64 a0_2] 35 (0, 0)) (by (with_reducible repeat (first | refine blk_drewN ?_ _ | refine blk_drew ?_ | refine blk_alloc ?_ _)); exact BK73001.out) hb); have n1_ := Aside0.mk (below_step (by repeat (first | (with_reducible first | exact HB.out | apply below_alloc | apply pw_below_drewN | apply below_drew1 | refine below_set ?_ GE73001.out) | exact HB.out)) hb); have n2_ := Aside0.mk (hbox); have n3_ := Aside0.mk ((by rw [hg]; exact (below_size (by repeat (first | (with_reducible first | exact HB.out | apply below_alloc | apply pw_below_drewN | apply below_drew1 | refine below_set ?_ GE73001.out) | exact HB.out))) : w.heap.size ≤ gb73002)); have n4_ := Aside0.mk ((by rw [hg]; exact (below_size (by repeat (first | (with_reducible first | exact HB.out | apply below_alloc | apply pw_below_drewN | apply below_drew1 | refine below_set ?_ GE73001.out) | exact HB.out))) : w.heap.size ≤ gb73002)); have n5_ := Aside0.mk ((by rw [hg]; exact Nat.ne_of_lt (blk_lt (g := gb73001) (o := .cells #[.slice A0_0 l0_0.length c0_0, .slice A0_1 l0_1.length c0_1, .int .i64 a0_2] 35 (0, 0)) (by (with_reducible repeat (first | refine blk_drewN ?_ _ | refine blk_drew ?_ | refine blk_alloc ?_ _)); exact BK73001.out)) : gb73001 ≠ gb73002)); have n6_ := Aside0.mk ((by rw [hg]; exact Nat.ne_of_gt (blk_lt (g := gb73001) (o := .cells #[.slice A0_0 l0_0.length c0_0, .slice A0_1 l0_1.length c0_1, .int .i64 a0_2] 35 (0, 0)) (by (with_reducible repeat (first | refine blk_drewN ?_ _ | refine blk_drew ?_ | refine blk_alloc ?_ _)); exact BK73001.out)) : gb73002 ≠ gb73001)); clear BK73001; clear HB; have BK73001 := n0_; have HB := n1_; have BK73002 := n2_; have GW73002 := n3_; have GE73002 := n4_; have NB73001_73002 := n5_; have NB73002_73001 := n6_; clear n0_ n1_ n2_ n3_ n4_ n5_ n6_; clear hb hbox hg; have hnb7 := NB73001_73002.out; have hnc7 := NB73002_73001.out; have hcz8_0 : w6.cell? ⟨gb73001, 0, none⟩ = some (.slice A0_0 l0_0.length c0_0) := (blk_cell BK73001.out 0).trans rfl; have hcz8_1 : w6.cell? ⟨gb73001, 1, none⟩ = some (.slice A0_1 l0_1.length c0_1) := (blk_cell BK73001.out 1).trans rfl; have hcz8_2 : w6.cell? ⟨gb73001, 2, none⟩ = some (.int .i64 a0_2) := (blk_cell BK73001.out 2).trans rfl; have hfz8_0 := blk_frozen BK73001.out 0; have hfz8_1 := blk_frozen BK73001.out 1; have hfz8_2 := blk_frozen BK73001.out 2) | (go_at_call 80; (with_reducible refine (impl_freeTies.calls k _ _ l0_0 _ _ l0_1 a0_2 t73003 _ ?side1 ?side2 ?side3 ?side4 A3.out).mono ?_); (case side1 => repeat (first | exact (Kd.C_below HR0_0.out HB.out) | (with_reducible refine Kd.C_alloc ?_ _) | (with_reducible refine Kd.C_drewN ?_ _) | (with_reducible refine Kd.C_drew ?_))); (case side2 => exact HC0_0.out); (case side3 => repeat (first | exact (Kd.C_below HR0_1.out HB.out) | (with_reducible refine Kd.C_alloc ?_ _) | (with_reducible refine Kd.C_drewN ?_ _) | (with_reducible refine Kd.C_drew ?_))); (case side4 => exact HC0_1.out); rintro e w9 ⟨v73004, rfl, ho0, hb⟩; have n0_ := Aside0.mk (Kd.R_lower ho0 (below_size (by repeat (first | (with_reducible first | exact HB.out | apply below_alloc | apply pw_below_drewN | apply below_drew1 | refine below_set ?_ GE73001.out | refine below_set ?_ GE73002.out) | exact HB.out)))); have n1_ := Aside0.mk (blk_below (g := gb73001) (o := .cells #[.slice A0_0 l0_0.length c0_0, .slice A0_1 l0_1.length c0_1, .int .i64 a0_2] 35 (0, 0)) (by (with_reducible repeat (first | refine blk_drewN ?_ _ | refine blk_drew ?_ | refine blk_alloc ?_ _)); exact BK73001.out) hb); have n2_ := Aside0.mk (blk_below (g := gb73002) (o := .cells #[.slice A1_0 l1_0.length c1_0, .slice A1_1 l1_1.length c1_1] 37 (0, 0)) (by (with_reducible repeat (first | refine blk_drewN ?_ _ | refine blk_drew ?_ | refine blk_alloc ?_ _)); exact BK73002.out) hb); have n3_ := Aside0.mk (below_step (by repeat (first | (with_reducible first | exact HB.out | apply below_alloc | apply pw_below_drewN | apply below_drew1 | refine below_set ?_ GE73001.out | refine below_set ?_ GE73002.out) | exact HB.out)) hb); clear BK73001; clear BK73002; clear HB; have HO73005 := n0_; have BK73001 := n1_; have BK73002 := n2_; have HB := n3_; clear n0_ n1_ n2_ n3_; (try clear hb); (try clear hb2); (try clear hk); (try clear hi); (try clear ho0)))
  repeat (go_quiet (first | ((with_reducible refine gate_dst (N := 2) rfl ?_); (try (refine gate_guard (by rfl) ?_; dsimp only)); refine box_event ?hg (N := 2) ?hd (cs := #[.slice A0_0 l0_0.length c0_0, .slice A0_1 l0_1.length c0_1, .int .i64 a0_2]) (t := 35) ?hr ?_; (case hd => rfl); (case hg => rfl); (case hr => first | (go_simp; done) | (go_simp; rfl)); intro gb73001 hg w5 hbox hb; have n0_ := Aside0.mk (below_step (by repeat (first | (with_reducible first | exact HB.out | apply below_alloc | apply pw_below_drewN | apply below_drew1) | exact HB.out)) hb); have n1_ := Aside0.mk (hbox); have n2_ := Aside0.mk ((by rw [hg]; exact (below_size (by repeat (first | (with_reducible first | exact HB.out | apply below_alloc | apply pw_below_drewN | apply below_drew1) | exact HB.out))) : w.heap.size ≤ gb73001)); have n3_ := Aside0.mk ((by rw [hg]; exact (below_size (by repeat (first | (with_reducible first | exact HB.out | apply below_alloc | apply pw_below_drewN | apply below_drew1) | exact HB.out))) : w.heap.size ≤ gb73001)); clear HB; have HB := n0_; have BK73001 := n1_; have GW73001 := n2_; have GE73001 := n3_; clear n0_ n1_ n2_ n3_; clear hb hbox hg) | ((with_reducible refine gate_dst (N := 3) rfl ?_); (try (refine gate_guard (by rfl) ?_; dsimp only)); refine box_event ?hg (N := 3) ?hd (cs := #[.slice A1_0 l1_0.length c1_0, .slice A1_1 l1_1.length c1_1]) (t := 37) ?hr ?_; (case hd => rfl); (case hg => rfl); (case hr => first | (go_simp; done) | (go_simp; rfl)); intro gb73002 hg w6 hbox hb; have n0_ := Aside0.mk (blk_below (g := gb73001) (o := .cells #[.slice A0_0 l0_0.length c0_0, .slice A0_1 l0_1.length c0_1, .int .i64 a0_2] 35 (0, 0)) (by (with_reducible repeat (first | refine blk_drewN ?_ _ | refine blk_drew ?_ | refine blk_alloc ?_ _)); exact BK73001.out) hb); have n1_ := Aside0.mk (below_step (by repeat (first | (with_reducible first | exact HB.out | apply below_alloc | apply pw_below_drewN | apply below_drew1 | refine below_set ?_ GE73001.out) | exact HB.out)) hb); have n2_ := Aside0.mk (hbox); have n3_ := Aside0.mk ((by rw [hg]; exact (below_size (by repeat (first | (with_reducible first | exact HB.out | apply below_alloc | apply pw_below_drewN | apply below_drew1 | refine below_set ?_ GE73001.out) | exact HB.out))) : w.heap.size ≤ gb73002)); have n4_ := Aside0.mk ((by rw [hg]; exact (below_size (by repeat (first | (with_reducible first | exact HB.out | apply below_alloc | apply pw_below_drewN | apply below_drew1 | refine below_set ?_ GE73001.out) | exact HB.out))) : w.heap.size ≤ gb73002)); have n5_ := Aside0.mk ((by rw [hg]; exact Nat.ne_of_lt (blk_lt (g := gb73001) (o := .cells #[.slice A0_0 l0_0.length c0_0, .slice A0_1 l0_1.length c0_1, .int .i64 a0_2] 35 (0, 0)) (by (with_reducible repeat (first | refine blk_drewN ?_ _ | refine blk_drew ?_ | refine blk_alloc ?_ _)); exact BK73001.out)) : gb73001 ≠ gb73002)); have n6_ := Aside0.mk ((by rw [hg]; exact Nat.ne_of_gt (blk_lt (g := gb73001) (o := .cells #[.slice A0_0 l0_0.length c0_0, .slice A0_1 l0_1.length c0_1, .int .i64 a0_2] 35 (0, 0)) (by (with_reducible repeat (first | refine blk_drewN ?_ _ | refine blk_drew ?_ | refine blk_alloc ?_ _)); exact BK73001.out)) : gb73002 ≠ gb73001)); clear BK73001; clear HB; have BK73001 := n0_; have HB := n1_; have BK73002 := n2_; have GW73002 := n3_; have GE73002 := n4_; have NB73001_73002 := n5_; have NB73002_73001 := n6_; clear n0_ n1_ n2_ n3_ n4_ n5_ n6_; clear hb hbox hg; have hnb7 := NB73001_73002.out; have hnc7 := NB73002_73001.out; have hcz8_0 : w6.cell? ⟨gb73001, 0, none⟩ = some (.slice A0_0 l0_0.length c0_0) := (blk_cell BK73001.out 0).trans rfl; have hcz8_1 : w6.cell? ⟨gb73001, 1, none⟩ = some (.slice A0_1 l0_1.length c0_1) := (blk_cell BK73001.out 1).trans rfl; have hcz8_2 : w6.cell? ⟨gb73001, 2, none⟩ = some (.int .i64 a0_2) := (blk_cell BK73001.out 2).trans rfl; have hfz8_0 := blk_frozen BK73001.out 0; have hfz8_1 := blk_frozen BK73001.out 1; have hfz8_2 := blk_frozen BK73001.out 2) | (go_at_call 80; (with_reducible refine (impl_freeTies.calls k _ _ l0_0 _ _ l0_1 a0_2 t73003 _ ?side1 ?side2 ?side3 ?side4 A3.out).mono ?_); (case side1 => repeat (first | exact (Kd.C_below HR0_0.out HB.out) | (with_reducible refine Kd.C_alloc ?_ _) | (with_reducible refine Kd.C_drewN ?_ _) | (with_reducible refine Kd.C_drew ?_))); (case side2 => exact HC0_0.out); (case side3 => repeat (first | exact (Kd.C_below HR0_1.out HB.out) | (with_reducible refine Kd.C_alloc ?_ _) | (with_reducible refine Kd.C_drewN ?_ _) | (with_reducible refine Kd.C_drew ?_))); (case side4 => exact HC0_1.out); rintro e w9 ⟨v73004, rfl, ho0, hb⟩; have n0_ := Aside0.mk (Kd.R_lower ho0 (below_size (by repeat (first | (with_reducible first | exact HB.out | apply below_alloc | apply pw_below_drewN | apply below_drew1 | refine below_set ?_ GE73001.out | refine below_set ?_ GE73002.out) | exact HB.out)))); have n1_ := Aside0.mk (blk_below (g := gb73001) (o := .cells #[.slice A0_0 l0_0.length c0_0, .slice A0_1 l0_1.length c0_1, .int .i64 a0_2] 35 (0, 0)) (by (with_reducible repeat (first | refine blk_drewN ?_ _ | refine blk_drew ?_ | refine blk_alloc ?_ _)); exact BK73001.out) hb); have n2_ := Aside0.mk (blk_below (g := gb73002) (o := .cells #[.slice A1_0 l1_0.length c1_0, .slice A1_1 l1_1.length c1_1] 37 (0, 0)) (by (with_reducible repeat (first | refine blk_drewN ?_ _ | refine blk_drew ?_ | refine blk_alloc ?_ _)); exact BK73002.out) hb); have n3_ := Aside0.mk (below_step (by repeat (first | (with_reducible first | exact HB.out | apply below_alloc | apply pw_below_drewN | apply below_drew1 | refine below_set ?_ GE73001.out | refine below_set ?_ GE73002.out) | exact HB.out)) hb); clear BK73001; clear BK73002; clear HB; have HO73005 := n0_; have BK73001 := n1_; have BK73002 := n2_; have HB := n3_; clear n0_ n1_ n2_ n3_; (try clear hb); (try clear hb2); (try clear hk); (try clear hi); (try clear ho0))); go_upto_region 2 with (first | ((with_reducible refine gate_dst (N := 2) rfl ?_); (try (refine gate_guard (by rfl) ?_; dsimp only)); refine box_event ?hg (N := 2) ?hd (cs := #[.slice A0_0 l0_0.length c0_0, .slice A0_1 l0_1.length c0_1, .int .i64 a0_2]) (t := 35) ?hr ?_; (case hd => rfl); (case hg => rfl); (case hr => first | (go_simp; done) | (go_simp; rfl)); intro gb73001 hg w5 hbox hb; have n0_ := Aside0.mk (below_step (by repeat (first | (with_reducible first | exact HB.out | apply below_alloc | apply pw_below_drewN | apply below_drew1) | exact HB.out)) hb); have n1_ := Aside0.mk (hbox); have n2_ := Aside0.mk ((by rw [hg]; exact (below_size (by repeat (first | (with_reducible first | exact HB.out | apply below_alloc | apply pw_below_drewN | apply below_drew1) | exact HB.out))) : w.heap.size ≤ gb73001)); have n3_ := Aside0.mk ((by rw [hg]; exact (below_size (by repeat (first | (with_reducible first | exact HB.out | apply below_alloc | apply pw_below_drewN | apply below_drew1) | exact HB.out))) : w.heap.size ≤ gb73001)); clear HB; have HB := n0_; have BK73001 := n1_; have GW73001 := n2_; have GE73001 := n3_; clear n0_ n1_ n2_ n3_; clear hb hbox hg) | ((with_reducible refine gate_dst (N := 3) rfl ?_); (try (refine gate_guard (by rfl) ?_; dsimp only)); refine box_event ?hg (N := 3) ?hd (cs := #[.slice A1_0 l1_0.length c1_0, .slice A1_1 l1_1.length c1_1]) (t := 37) ?hr ?_; (case hd => rfl); (case hg => rfl); (case hr => first | (go_simp; done) | (go_simp; rfl)); intro gb73002 hg w6 hbox hb; have n0_ := Aside0.mk (blk_below (g := gb73001) (o := .cells #[.slice A0_0 l0_0.length c0_0, .slice A0_1 l0_1.length c0_1, .int .i64 a0_2] 35 (0, 0)) (by (with_reducible repeat (first | refine blk_drewN ?_ _ | refine blk_drew ?_ | refine blk_alloc ?_ _)); exact BK73001.out) hb); have n1_ := Aside0.mk (below_step (by repeat (first | (with_reducible first | exact HB.out | apply below_alloc | apply pw_below_drewN | apply below_drew1 | refine below_set ?_ GE73001.out) | exact HB.out)) hb); have n2_ := Aside0.mk (hbox); have n3_ := Aside0.mk ((by rw [hg]; exact (below_size (by repeat (first | (with_reducible first | exact HB.out | apply below_alloc | apply pw_below_drewN | apply below_drew1 | refine below_set ?_ GE73001.out) | exact HB.out))) : w.heap.size ≤ gb73002)); have n4_ := Aside0.mk ((by rw [hg]; exact (below_size (by repeat (first | (with_reducible first | exact HB.out | apply below_alloc | apply pw_below_drewN | apply below_drew1 | refine below_set ?_ GE73001.out) | exact HB.out))) : w.heap.size ≤ gb73002)); have n5_ := Aside0.mk ((by rw [hg]; exact Nat.ne_of_lt (blk_lt (g := gb73001) (o := .cells #[.slice A0_0 l0_0.length c0_0, .slice A0_1 l0_1.length c0_1, .int .i64 a0_2] 35 (0, 0)) (by (with_reducible repeat (first | refine blk_drewN ?_ _ | refine blk_drew ?_ | refine blk_alloc ?_ _)); exact BK73001.out)) : gb73001 ≠ gb73002)); have n6_ := Aside0.mk ((by rw [hg]; exact Nat.ne_of_gt (blk_lt (g := gb73001) (o := .cells #[.slice A0_0 l0_0.length c0_0, .slice A0_1 l0_1.length c0_1, .int .i64 a0_2] 35 (0, 0)) (by (with_reducible repeat (first | refine blk_drewN ?_ _ | refine blk_drew ?_ | refine blk_alloc ?_ _)); exact BK73001.out)) : gb73002 ≠ gb73001)); clear BK73001; clear HB; have BK73001 := n0_; have HB := n1_; have BK73002 := n2_; have GW73002 := n3_; have GE73002 := n4_; have NB73001_73002 := n5_; have NB73002_73001 := n6_; clear n0_ n1_ n2_ n3_ n4_ n5_ n6_; clear hb hbox hg; have hnb7 := NB73001_73002.out; have hnc7 := NB73002_73001.out; have hcz8_0 : w6.cell? ⟨gb73001, 0, none⟩ = some (.slice A0_0 l0_0.length c0_0) := (blk_cell BK73001.out 0).trans rfl; have hcz8_1 : w6.cell? ⟨gb73001, 1, none⟩ = some (.slice A0_1 l0_1.length c0_1) := (blk_cell BK73001.out 1).trans rfl; have hcz8_2 : w6.cell? ⟨gb73001, 2, none⟩ = some (.int .i64 a0_2) := (blk_cell BK73001.out 2).trans rfl; have hfz8_0 := blk_frozen BK73001.out 0; have hfz8_1 := blk_frozen BK73001.out 1; have hfz8_2 := blk_frozen BK73001.out 2) | (go_at_call 80; (with_reducible refine (impl_freeTies.calls k _ _ l0_0 _ _ l0_1 a0_2 t73003 _ ?side1 ?side2 ?side3 ?side4 A3.out).mono ?_); (case side1 => repeat (first | exact (Kd.C_below HR0_0.out HB.out) | (with_reducible refine Kd.C_alloc ?_ _) | (with_reducible refine Kd.C_drewN ?_ _) | (with_reducible refine Kd.C_drew ?_))); (case side2 => exact HC0_0.out); (case side3 => repeat (first | exact (Kd.C_below HR0_1.out HB.out) | (with_reducible refine Kd.C_alloc ?_ _) | (with_reducible refine Kd.C_drewN ?_ _) | (with_reducible refine Kd.C_drew ?_))); (case side4 => exact HC0_1.out); rintro e w9 ⟨v73004, rfl, ho0, hb⟩; have n0_ := Aside0.mk (Kd.R_lower ho0 (below_size (by repeat (first | (with_reducible first | exact HB.out | apply below_alloc | apply pw_below_drewN | apply below_drew1 | refine below_set ?_ GE73001.out | refine below_set ?_ GE73002.out) | exact HB.out)))); have n1_ := Aside0.mk (blk_below (g := gb73001) (o := .cells #[.slice A0_0 l0_0.length c0_0, .slice A0_1 l0_1.length c0_1, .int .i64 a0_2] 35 (0, 0)) (by (with_reducible repeat (first | refine blk_drewN ?_ _ | refine blk_drew ?_ | refine blk_alloc ?_ _)); exact BK73001.out) hb); have n2_ := Aside0.mk (blk_below (g := gb73002) (o := .cells #[.slice A1_0 l1_0.length c1_0, .slice A1_1 l1_1.length c1_1] 37 (0, 0)) (by (with_reducible repeat (first | refine blk_drewN ?_ _ | refine blk_drew ?_ | refine blk_alloc ?_ _)); exact BK73002.out) hb); have n3_ := Aside0.mk (below_step (by repeat (first | (with_reducible first | exact HB.out | apply below_alloc | apply pw_below_drewN | apply below_drew1 | refine below_set ?_ GE73001.out | refine below_set ?_ GE73002.out) | exact HB.out)) hb); clear BK73001; clear BK73002; clear HB; have HO73005 := n0_; have BK73001 := n1_; have BK73002 := n2_; have HB := n3_; clear n0_ n1_ n2_ n3_; (try clear hb); (try clear hb2); (try clear hk); (try clear hi); (try clear ho0))))
  (try simp only [Act.put, List.setIfInBounds_toArray, List.set_cons_zero, List.set_cons_succ])
  go_cut [23] (fun v23 wc => ∃ (kq : Nat) (x23_3 : Bool), v23 = .bool x23_3 ∧ Aside0 (impl_isChoice.j0 kq t73003 x23_3 l0_0 l0_1 a0_2 l1_0 l1_1 = some r) ∧ Aside0 (kq ≤ k) ∧ Aside0 (Kd.R (Kd.int .i64) 3 wc w.heap.size (fun _ => True) v73004 t73003) ∧ Aside0 (wc.heap[gb73001]? = some (.cells #[(.slice A0_0 l0_0.length c0_0), (.slice A0_1 l0_1.length c0_1), .int .i64 a0_2] 35 (0, 0))) ∧ Aside0 (wc.heap[gb73002]? = some (.cells #[(.slice A1_0 l1_0.length c1_0), (.slice A1_1 l1_1.length c1_1)] 37 (0, 0))) ∧ Aside0 (Below w.heap.size w wc))
  case first =>
    have H := HC4.out
    clear HC4
    by_cases c10 : (l1_0.length : Int) = (t73003.length : Int)
    · rw [if_pos c10] at H
      have c10b0 : ((l1_0.length : Int) == (t73003.length : Int)) = true := beq_iff_eq.mpr c10
      have c10b1 : ((l1_0.length : Int) != (t73003.length : Int)) = false := bne_eq_false_iff_eq.mpr c10
      have c10b2 : (l1_0.length == t73003.length) = true := by first | simpa using c10 | (simp at c10 ⊢; omega)
      clear c10
      (first | rw [c10b0] | (simp only [i64_w, i32_w]; rw [c10b0]) | skip)
      have H' := Aside0.mk H
      clear H
      have hnb11 := NB73002_73001.out
      have hnc11 := NB73001_73002.out
      have hcz12_0 : w9.cell? ⟨gb73002, 0, none⟩ = some (.slice A1_0 l1_0.length c1_0) := (blk_cell BK73002.out 0).trans rfl
      have hcz12_1 : w9.cell? ⟨gb73002, 1, none⟩ = some (.slice A1_1 l1_1.length c1_1) := (blk_cell BK73002.out 1).trans rfl
      have hfz12_0 := blk_frozen BK73002.out 0
      have hfz12_1 := blk_frozen BK73002.out 1
      obtain ⟨Ao13, co13, eo13⟩ := Kd.R_slice HO73005.out
      subst eo13
      go_wp2
      repeat (go_quiet (fail); try go_wp2)
      go_meet
      case rel => exact ⟨_, (((l1_1.length : Int) != 3)), (by first | rfl | (simp; done) | (simp [*]; done)), H', ⟨by first | omega | exact Nat.le_refl _⟩, ⟨by (with_reducible repeat (first | apply Kd.R_alloc | apply Kd.R_drewN | apply Kd.R_drew)); exact HO73005.out⟩, ⟨by (with_reducible repeat (first | refine blk_drewN ?_ _ | refine blk_drew ?_ | refine blk_alloc ?_ _)); exact BK73001.out⟩, ⟨by (with_reducible repeat (first | refine blk_drewN ?_ _ | refine blk_drew ?_ | refine blk_alloc ?_ _)); exact BK73002.out⟩, ⟨by repeat (first | (with_reducible first | exact HB.out | apply below_alloc | apply pw_below_drewN | apply below_drew1 | refine below_set ?_ GE73001.out | refine below_set ?_ GE73002.out) | exact HB.out)⟩⟩
    · rw [if_neg c10] at H
      have c10b0 : ((l1_0.length : Int) == (t73003.length : Int)) = false := beq_eq_false_iff_ne.mpr c10
      have c10b1 : ((l1_0.length : Int) != (t73003.length : Int)) = true := bne_iff_ne.mpr c10
      have c10b2 : (l1_0.length == t73003.length) = false := by first | simpa using c10 | (simp at c10 ⊢; omega)
      (first | rw [c10b0] | (simp only [i64_w, i32_w]; rw [c10b0]) | skip)
      have H' := Aside0.mk H
      clear H
      have hnb14 := NB73002_73001.out
      have hnc14 := NB73001_73002.out
      have hcz15_0 : w9.cell? ⟨gb73002, 0, none⟩ = some (.slice A1_0 l1_0.length c1_0) := (blk_cell BK73002.out 0).trans rfl
      have hcz15_1 : w9.cell? ⟨gb73002, 1, none⟩ = some (.slice A1_1 l1_1.length c1_1) := (blk_cell BK73002.out 1).trans rfl
      have hfz15_0 := blk_frozen BK73002.out 0
      have hfz15_1 := blk_frozen BK73002.out 1
      obtain ⟨Ao16, co16, eo16⟩ := Kd.R_slice HO73005.out
      subst eo16
      go_wp2
      repeat (go_quiet (fail); try go_wp2)
      go_meet
      case rel => exact ⟨_, (true), (by first | rfl | (simp; done) | (simp [*]; done)), H', ⟨by first | omega | exact Nat.le_refl _⟩, ⟨by (with_reducible repeat (first | apply Kd.R_alloc | apply Kd.R_drewN | apply Kd.R_drew)); exact HO73005.out⟩, ⟨by (with_reducible repeat (first | refine blk_drewN ?_ _ | refine blk_drew ?_ | refine blk_alloc ?_ _)); exact BK73001.out⟩, ⟨by (with_reducible repeat (first | refine blk_drewN ?_ _ | refine blk_drew ?_ | refine blk_alloc ?_ _)); exact BK73002.out⟩, ⟨by repeat (first | (with_reducible first | exact HB.out | apply below_alloc | apply pw_below_drewN | apply below_drew1 | refine below_set ?_ GE73001.out | refine below_set ?_ GE73002.out) | exact HB.out)⟩⟩
  case rest =>
    clear HC4
    try clear c1
    try clear p2
    try clear c7
    try clear c10
    try clear c10b0
    try clear c10b1
    try clear c10b2
    try clear c11
    try clear c14
    try clear hcz12_0
    try clear hcz12_1
    try clear hcz15_0
    try clear hcz15_1
    try clear hcz8_0
    try clear hcz8_1
    try clear hcz8_2
    try clear hfz12_0
    try clear hfz12_1
    try clear hfz15_0
    try clear hfz15_1
    try clear hfz8_0
    try clear hfz8_1
    try clear hfz8_2
    obtain ⟨kq, x23_3, rfl, HA, HJ3, HO_5, BK73001, BK73002, HB⟩ := hcut
    cases kq with
    | zero => exact absurd HA.out (by simp [impl_isChoice.j0])
    | succ kj3 =>
      have H := HA.out
      clear HA
      simp only [impl_isChoice.j0] at H
      by_cases c17 : x23_3 = true
      · subst c17
        have H1 : (some false) = some r := by rw [if_pos rfl] at H; exact H
        clear H
        have H := H1
        clear H1
        obtain rfl := Option.some.inj H
        go_wp2
        repeat (go_quiet (fail); try go_wp2)
        go_ret
        exact ⟨by first | rfl | (simp [errW_none, errW_some] <;> rfl) | (simp [*, errW_none, errW_some] <;> rfl), by repeat (first | (with_reducible first | exact HB.out | apply below_alloc | apply pw_below_drewN | apply below_drew1 | refine below_set ?_ GE73001.out | refine below_set ?_ GE73002.out) | exact HB.out)⟩
      · replace c17 := Bool.eq_false_iff.mpr c17
        subst c17
        have H1 : (impl_isChoice.l0 kj3 t73003 (t73003.length : Int) 0 l0_0 l0_1 a0_2 l1_0 l1_1) = some r := by rw [if_neg (show ¬ (false = true) by decide)] at H; exact H
        clear H
        have H := H1
        clear H1
        have H' := Aside0.mk H
        clear H
        obtain ⟨Ao18, co18, eo18⟩ := Kd.R_slice HO_5.out
        subst eo18
        go_wp2
        repeat (go_quiet (fail); try go_wp2)
        go_loopg [26] kj3 (fun kq v26 w' => ∃ (x26_2 : Int), v26 = .int .i64 x26_2 ∧ Aside0 (impl_isChoice.l0 kq t73003 (t73003.length : Int) x26_2 l0_0 l0_1 a0_2 l1_0 l1_1 = some r) ∧ Aside0 (kq ≤ kj3) ∧ Aside0 (Kd.R (Kd.int .i64) 3 w' w.heap.size (fun _ => True) (.slice Ao18 t73003.length co18) t73003) ∧ Aside0 (w'.heap[gb73001]? = some (.cells #[(.slice A0_0 l0_0.length c0_0), (.slice A0_1 l0_1.length c0_1), .int .i64 a0_2] 35 (0, 0))) ∧ Aside0 (w'.heap[gb73002]? = some (.cells #[(.slice A1_0 l1_0.length c1_0), (.slice A1_1 l1_1.length c1_1)] 37 (0, 0))) ∧ Aside0 (Below w.heap.size w w'))
        case atStart => exact ⟨(0), (by first | rfl | (simp; done) | (simp [*]; done)), H', ⟨Nat.le_refl _⟩, ⟨by (with_reducible repeat (first | apply Kd.R_alloc | apply Kd.R_drewN | apply Kd.R_drew)); exact HO_5.out⟩, ⟨by (with_reducible repeat (first | refine blk_drewN ?_ _ | refine blk_drew ?_ | refine blk_alloc ?_ _)); exact BK73001.out⟩, ⟨by (with_reducible repeat (first | refine blk_drewN ?_ _ | refine blk_drew ?_ | refine blk_alloc ?_ _)); exact BK73002.out⟩, ⟨by repeat (first | (with_reducible first | exact HB.out | apply below_alloc | apply pw_below_drewN | apply below_drew1 | refine below_set ?_ GE73001.out | refine below_set ?_ GE73002.out) | exact HB.out)⟩⟩
        case round =>
          clear H'
          try clear c1
          try clear p2
          try clear c7
          try clear c10
          try clear c10b0
          try clear c10b1
          try clear c10b2
          try clear c11
          try clear c14
          try clear c17
          try clear hcz12_0
          try clear hcz12_1
          try clear hcz15_0
          try clear hcz15_1
          try clear hcz8_0
          try clear hcz8_1
          try clear hcz8_2
          try clear hfz12_0
          try clear hfz12_1
          try clear hfz15_0
          try clear hfz15_1
          try clear hfz8_0
          try clear hfz8_1
          try clear hfz8_2
          try clear p2
          obtain ⟨x26_2, rfl, HA, HK2, HO_24, BK73001, BK73002, HB⟩ := hrel
          cases gk with
          | zero => exact absurd HA.out (by simp [impl_isChoice.l0])
          | succ k2 =>
            have H := HA.out
            clear HA
            simp only [impl_isChoice.l0] at H
            by_cases c19 : x26_2 < (t73003.length : Int)
            · rw [if_pos c19] at H
              have c19b0 : decide (x26_2 < (t73003.length : Int)) = true := decide_eq_true c19
              clear c19
              by_cases c20 : 0 ≤ x26_2
              · rw [if_pos c20] at H
                have c20b0 : decide (0 ≤ x26_2) = true := decide_eq_true c20
                clear c20
                by_cases c21 : x26_2 < (t73003.length : Int)
                · rw [if_pos c21] at H
                  have c21b0 : decide (x26_2 < (t73003.length : Int)) = true := decide_eq_true c21
                  clear c21
                  by_cases c22 : x26_2 < (l1_0.length : Int)
                  · rw [if_pos c22] at H
                    have c22b0 : decide (x26_2 < (l1_0.length : Int)) = true := decide_eq_true c22
                    clear c22
                    by_cases c23 : 0 ≤ (rd t73003 x26_2)
                    · rw [if_pos c23] at H
                      have c23b0 : decide (0 ≤ (rd t73003 x26_2)) = true := decide_eq_true c23
                      clear c23
                      by_cases c24 : (rd t73003 x26_2) < (l0_1.length : Int)
                      · rw [if_pos c24] at H
                        have c24b0 : decide ((rd t73003 x26_2) < (l0_1.length : Int)) = true := decide_eq_true c24
                        clear c24
                        by_cases c25 : (rd l1_0 x26_2) < ((rd_T90 l0_1 (rd t73003 x26_2)).f2)
                        · rw [if_pos c25] at H
                          have c25b0 : decide ((rd l1_0 x26_2) < ((rd_T90 l0_1 (rd t73003 x26_2)).f2)) = true := decide_eq_true c25
                          clear c25
                          obtain rfl := Option.some.inj H
                          have p73006 : 0 ≤ (x26_2 : Int) := of_decide_eq_true (by first | (with_reducible assumption) | assumption)
                          have q73006 : x26_2 < (t73003.length : Int) := of_decide_eq_true (by first | (with_reducible assumption) | assumption)
                          obtain ⟨ad73006, e73006, hx73006_0⟩ := Kd.at_int (Kd.R_reads' HO_24.out).2.2 x26_2 p73006 q73006
                          cases e73006
                          replace p73006 := eq_true p73006
                          replace q73006 := eq_true q73006
                          have hnb26 := NB73002_73001.out
                          have hnc26 := NB73001_73002.out
                          have hcz27_0 : wr.cell? ⟨gb73002, 0, none⟩ = some (.slice A1_0 l1_0.length c1_0) := (blk_cell BK73002.out 0).trans rfl
                          have hcz27_1 : wr.cell? ⟨gb73002, 1, none⟩ = some (.slice A1_1 l1_1.length c1_1) := (blk_cell BK73002.out 1).trans rfl
                          have hfz27_0 := blk_frozen BK73002.out 0
                          have hfz27_1 := blk_frozen BK73002.out 1
                          have p73007 : 0 ≤ (x26_2 : Int) := of_decide_eq_true (by first | (with_reducible assumption) | assumption)
                          have q73007 : x26_2 < (l1_0.length : Int) := of_decide_eq_true (by first | (with_reducible assumption) | assumption)
                          obtain ⟨ad73007, e73007, hx73007_0⟩ := Kd.at_int HR1_0.out x26_2 p73007 q73007
                          cases e73007
                          replace hx73007_0 := (HB.out.cell (World.block_lt_of_cell? w _ hx73007_0)).trans hx73007_0
                          replace p73007 := eq_true p73007
                          replace q73007 := eq_true q73007
                          have hcz28_0 : wr.cell? ⟨gb73001, 0, none⟩ = some (.slice A0_0 l0_0.length c0_0) := (blk_cell BK73001.out 0).trans rfl
                          have hcz28_1 : wr.cell? ⟨gb73001, 1, none⟩ = some (.slice A0_1 l0_1.length c0_1) := (blk_cell BK73001.out 1).trans rfl
                          have hcz28_2 : wr.cell? ⟨gb73001, 2, none⟩ = some (.int .i64 a0_2) := (blk_cell BK73001.out 2).trans rfl
                          have hfz28_0 := blk_frozen BK73001.out 0
                          have hfz28_1 := blk_frozen BK73001.out 1
                          have hfz28_2 := blk_frozen BK73001.out 2
                          have p73008 : 0 ≤ ((rd t73003 x26_2) : Int) := of_decide_eq_true (by first | (with_reducible assumption) | assumption)
                          have q73008 : (rd t73003 x26_2) < (l0_1.length : Int) := of_decide_eq_true (by first | (with_reducible assumption) | assumption)
                          obtain ⟨ad73008, e73008, hx73008_0, hx73008_1, hx73008_2, hx73008_3, hx73008_4⟩ := at_T90 HR0_1.out (rd t73003 x26_2) p73008 q73008
                          cases e73008
                          replace hx73008_0 := (HB.out.cell (World.block_lt_of_cell? w _ hx73008_0)).trans hx73008_0
                          replace hx73008_1 := (HB.out.cell (World.block_lt_of_cell? w _ hx73008_1)).trans hx73008_1
                          replace hx73008_2 := (HB.out.cell (World.block_lt_of_cell? w _ hx73008_2)).trans hx73008_2
                          replace hx73008_3 := (HB.out.cell (World.block_lt_of_cell? w _ hx73008_3)).trans hx73008_3
                          replace hx73008_4 := (HB.out.cell (World.block_lt_of_cell? w _ hx73008_4)).trans hx73008_4
                          replace p73008 := eq_true p73008
                          replace q73008 := eq_true q73008
                          go_wp2
                          repeat (go_quiet (fail); try go_wp2)
                          go_ret
                          exact ⟨by first | rfl | (simp [errW_none, errW_some] <;> rfl) | (simp [*, errW_none, errW_some] <;> rfl), by repeat (first | (with_reducible first | exact HB.out | apply below_alloc | apply pw_below_drewN | apply below_drew1 | refine below_set ?_ GE73001.out | refine below_set ?_ GE73002.out) | exact HB.out)⟩
                        · rw [if_neg c25] at H
                          have c25b0 : decide ((rd l1_0 x26_2) < ((rd_T90 l0_1 (rd t73003 x26_2)).f2)) = false := decide_eq_false c25
                          clear c25
                          by_cases c29 : (rd l1_0 x26_2) > ((rd_T90 l0_1 (rd t73003 x26_2)).f3)
                          · rw [if_pos c29] at H
                            have c29b0 : decide (((rd_T90 l0_1 (rd t73003 x26_2)).f3) < (rd l1_0 x26_2)) = true := decide_eq_true c29
                            clear c29
                            obtain rfl := Option.some.inj H
                            have p73006 : 0 ≤ (x26_2 : Int) := of_decide_eq_true (by first | (with_reducible assumption) | assumption)
                            have q73006 : x26_2 < (t73003.length : Int) := of_decide_eq_true (by first | (with_reducible assumption) | assumption)
                            obtain ⟨ad73006, e73006, hx73006_0⟩ := Kd.at_int (Kd.R_reads' HO_24.out).2.2 x26_2 p73006 q73006
                            cases e73006
                            replace p73006 := eq_true p73006
                            replace q73006 := eq_true q73006
                            have hnb30 := NB73002_73001.out
                            have hnc30 := NB73001_73002.out
                            have hcz31_0 : wr.cell? ⟨gb73002, 0, none⟩ = some (.slice A1_0 l1_0.length c1_0) := (blk_cell BK73002.out 0).trans rfl
                            have hcz31_1 : wr.cell? ⟨gb73002, 1, none⟩ = some (.slice A1_1 l1_1.length c1_1) := (blk_cell BK73002.out 1).trans rfl
                            have hfz31_0 := blk_frozen BK73002.out 0
                            have hfz31_1 := blk_frozen BK73002.out 1
                            have p73007 : 0 ≤ (x26_2 : Int) := of_decide_eq_true (by first | (with_reducible assumption) | assumption)
                            have q73007 : x26_2 < (l1_0.length : Int) := of_decide_eq_true (by first | (with_reducible assumption) | assumption)
                            obtain ⟨ad73007, e73007, hx73007_0⟩ := Kd.at_int HR1_0.out x26_2 p73007 q73007
                            cases e73007
                            replace hx73007_0 := (HB.out.cell (World.block_lt_of_cell? w _ hx73007_0)).trans hx73007_0
                            replace p73007 := eq_true p73007
                            replace q73007 := eq_true q73007
                            have hcz32_0 : wr.cell? ⟨gb73001, 0, none⟩ = some (.slice A0_0 l0_0.length c0_0) := (blk_cell BK73001.out 0).trans rfl
                            have hcz32_1 : wr.cell? ⟨gb73001, 1, none⟩ = some (.slice A0_1 l0_1.length c0_1) := (blk_cell BK73001.out 1).trans rfl
                            have hcz32_2 : wr.cell? ⟨gb73001, 2, none⟩ = some (.int .i64 a0_2) := (blk_cell BK73001.out 2).trans rfl
                            have hfz32_0 := blk_frozen BK73001.out 0
                            have hfz32_1 := blk_frozen BK73001.out 1
                            have hfz32_2 := blk_frozen BK73001.out 2
                            have p73008 : 0 ≤ ((rd t73003 x26_2) : Int) := of_decide_eq_true (by first | (with_reducible assumption) | assumption)
                            have q73008 : (rd t73003 x26_2) < (l0_1.length : Int) := of_decide_eq_true (by first | (with_reducible assumption) | assumption)
                            obtain ⟨ad73008, e73008, hx73008_0, hx73008_1, hx73008_2, hx73008_3, hx73008_4⟩ := at_T90 HR0_1.out (rd t73003 x26_2) p73008 q73008
                            cases e73008
                            replace hx73008_0 := (HB.out.cell (World.block_lt_of_cell? w _ hx73008_0)).trans hx73008_0
                            replace hx73008_1 := (HB.out.cell (World.block_lt_of_cell? w _ hx73008_1)).trans hx73008_1
                            replace hx73008_2 := (HB.out.cell (World.block_lt_of_cell? w _ hx73008_2)).trans hx73008_2
                            replace hx73008_3 := (HB.out.cell (World.block_lt_of_cell? w _ hx73008_3)).trans hx73008_3
                            replace hx73008_4 := (HB.out.cell (World.block_lt_of_cell? w _ hx73008_4)).trans hx73008_4
                            replace p73008 := eq_true p73008
                            replace q73008 := eq_true q73008
                            have p73009 : 0 ≤ (x26_2 : Int) := of_decide_eq_true (by first | (with_reducible assumption) | assumption)
                            have q73009 : x26_2 < (l1_0.length : Int) := of_decide_eq_true (by first | (with_reducible assumption) | assumption)
                            obtain ⟨ad73009, e73009, hx73009_0⟩ := Kd.at_int HR1_0.out x26_2 p73009 q73009
                            obtain rfl : ad73007 = ad73009 := (by injection e73009)
                            replace hx73009_0 := (HB.out.cell (World.block_lt_of_cell? w _ hx73009_0)).trans hx73009_0
                            replace p73009 := eq_true p73009
                            replace q73009 := eq_true q73009
                            have p73010 : 0 ≤ ((rd t73003 x26_2) : Int) := of_decide_eq_true (by first | (with_reducible assumption) | assumption)
                            have q73010 : (rd t73003 x26_2) < (l0_1.length : Int) := of_decide_eq_true (by first | (with_reducible assumption) | assumption)
                            obtain ⟨ad73010, e73010, hx73010_0, hx73010_1, hx73010_2, hx73010_3, hx73010_4⟩ := at_T90 HR0_1.out (rd t73003 x26_2) p73010 q73010
                            obtain rfl : ad73008 = ad73010 := (by injection e73010)
                            replace hx73010_0 := (HB.out.cell (World.block_lt_of_cell? w _ hx73010_0)).trans hx73010_0
                            replace hx73010_1 := (HB.out.cell (World.block_lt_of_cell? w _ hx73010_1)).trans hx73010_1
                            replace hx73010_2 := (HB.out.cell (World.block_lt_of_cell? w _ hx73010_2)).trans hx73010_2
                            replace hx73010_3 := (HB.out.cell (World.block_lt_of_cell? w _ hx73010_3)).trans hx73010_3
                            replace hx73010_4 := (HB.out.cell (World.block_lt_of_cell? w _ hx73010_4)).trans hx73010_4
                            replace p73010 := eq_true p73010
                            replace q73010 := eq_true q73010
                            go_wp2
                            repeat (go_quiet (fail); try go_wp2)
                            go_ret
                            exact ⟨by first | rfl | (simp [errW_none, errW_some] <;> rfl) | (simp [*, errW_none, errW_some] <;> rfl), by repeat (first | (with_reducible first | exact HB.out | apply below_alloc | apply pw_below_drewN | apply below_drew1 | refine below_set ?_ GE73001.out | refine below_set ?_ GE73002.out) | exact HB.out)⟩
                          · rw [if_neg c29] at H
                            have c29b0 : decide (((rd_T90 l0_1 (rd t73003 x26_2)).f3) < (rd l1_0 x26_2)) = false := decide_eq_false c29
                            clear c29
                            have H' := Aside0.mk H
                            clear H
                            have p73006 : 0 ≤ (x26_2 : Int) := of_decide_eq_true (by first | (with_reducible assumption) | assumption)
                            have q73006 : x26_2 < (t73003.length : Int) := of_decide_eq_true (by first | (with_reducible assumption) | assumption)
                            obtain ⟨ad73006, e73006, hx73006_0⟩ := Kd.at_int (Kd.R_reads' HO_24.out).2.2 x26_2 p73006 q73006
                            cases e73006
                            replace p73006 := eq_true p73006
                            replace q73006 := eq_true q73006
                            have hnb33 := NB73002_73001.out
                            have hnc33 := NB73001_73002.out
                            have hcz34_0 : wr.cell? ⟨gb73002, 0, none⟩ = some (.slice A1_0 l1_0.length c1_0) := (blk_cell BK73002.out 0).trans rfl
                            have hcz34_1 : wr.cell? ⟨gb73002, 1, none⟩ = some (.slice A1_1 l1_1.length c1_1) := (blk_cell BK73002.out 1).trans rfl
                            have hfz34_0 := blk_frozen BK73002.out 0
                            have hfz34_1 := blk_frozen BK73002.out 1
                            have p73007 : 0 ≤ (x26_2 : Int) := of_decide_eq_true (by first | (with_reducible assumption) | assumption)
                            have q73007 : x26_2 < (l1_0.length : Int) := of_decide_eq_true (by first | (with_reducible assumption) | assumption)
                            obtain ⟨ad73007, e73007, hx73007_0⟩ := Kd.at_int HR1_0.out x26_2 p73007 q73007
                            cases e73007
                            replace hx73007_0 := (HB.out.cell (World.block_lt_of_cell? w _ hx73007_0)).trans hx73007_0
                            replace p73007 := eq_true p73007
                            replace q73007 := eq_true q73007
                            have hcz35_0 : wr.cell? ⟨gb73001, 0, none⟩ = some (.slice A0_0 l0_0.length c0_0) := (blk_cell BK73001.out 0).trans rfl
                            have hcz35_1 : wr.cell? ⟨gb73001, 1, none⟩ = some (.slice A0_1 l0_1.length c0_1) := (blk_cell BK73001.out 1).trans rfl
                            have hcz35_2 : wr.cell? ⟨gb73001, 2, none⟩ = some (.int .i64 a0_2) := (blk_cell BK73001.out 2).trans rfl
                            have hfz35_0 := blk_frozen BK73001.out 0
                            have hfz35_1 := blk_frozen BK73001.out 1
                            have hfz35_2 := blk_frozen BK73001.out 2
                            have p73008 : 0 ≤ ((rd t73003 x26_2) : Int) := of_decide_eq_true (by first | (with_reducible assumption) | assumption)
                            have q73008 : (rd t73003 x26_2) < (l0_1.length : Int) := of_decide_eq_true (by first | (with_reducible assumption) | assumption)
                            obtain ⟨ad73008, e73008, hx73008_0, hx73008_1, hx73008_2, hx73008_3, hx73008_4⟩ := at_T90 HR0_1.out (rd t73003 x26_2) p73008 q73008
                            cases e73008
                            replace hx73008_0 := (HB.out.cell (World.block_lt_of_cell? w _ hx73008_0)).trans hx73008_0
                            replace hx73008_1 := (HB.out.cell (World.block_lt_of_cell? w _ hx73008_1)).trans hx73008_1
                            replace hx73008_2 := (HB.out.cell (World.block_lt_of_cell? w _ hx73008_2)).trans hx73008_2
                            replace hx73008_3 := (HB.out.cell (World.block_lt_of_cell? w _ hx73008_3)).trans hx73008_3
                            replace hx73008_4 := (HB.out.cell (World.block_lt_of_cell? w _ hx73008_4)).trans hx73008_4
                            replace p73008 := eq_true p73008
                            replace q73008 := eq_true q73008
                            have p73009 : 0 ≤ (x26_2 : Int) := of_decide_eq_true (by first | (with_reducible assumption) | assumption)
                            have q73009 : x26_2 < (l1_0.length : Int) := of_decide_eq_true (by first | (with_reducible assumption) | assumption)
                            obtain ⟨ad73009, e73009, hx73009_0⟩ := Kd.at_int HR1_0.out x26_2 p73009 q73009
                            obtain rfl : ad73007 = ad73009 := (by injection e73009)
                            replace hx73009_0 := (HB.out.cell (World.block_lt_of_cell? w _ hx73009_0)).trans hx73009_0
                            replace p73009 := eq_true p73009
                            replace q73009 := eq_true q73009
                            have p73010 : 0 ≤ ((rd t73003 x26_2) : Int) := of_decide_eq_true (by first | (with_reducible assumption) | assumption)
                            have q73010 : (rd t73003 x26_2) < (l0_1.length : Int) := of_decide_eq_true (by first | (with_reducible assumption) | assumption)
                            obtain ⟨ad73010, e73010, hx73010_0, hx73010_1, hx73010_2, hx73010_3, hx73010_4⟩ := at_T90 HR0_1.out (rd t73003 x26_2) p73010 q73010
                            obtain rfl : ad73008 = ad73010 := (by injection e73010)
                            replace hx73010_0 := (HB.out.cell (World.block_lt_of_cell? w _ hx73010_0)).trans hx73010_0
                            replace hx73010_1 := (HB.out.cell (World.block_lt_of_cell? w _ hx73010_1)).trans hx73010_1
                            replace hx73010_2 := (HB.out.cell (World.block_lt_of_cell? w _ hx73010_2)).trans hx73010_2
                            replace hx73010_3 := (HB.out.cell (World.block_lt_of_cell? w _ hx73010_3)).trans hx73010_3
                            replace hx73010_4 := (HB.out.cell (World.block_lt_of_cell? w _ hx73010_4)).trans hx73010_4
                            replace p73010 := eq_true p73010
                            replace q73010 := eq_true q73010
                            go_wp2
                            repeat (go_quiet (fail); try go_wp2)
                            go_roundg k2
                            case measure => have := HJ3.out; have := HK2.out; omega
                            case rel => exact ⟨(wrap64 (x26_2 + 1)), (by first | rfl | (simp; done) | (simp [*]; done)), H', ⟨by have := HJ3.out; have := HK2.out; omega⟩, ⟨by (with_reducible repeat (first | apply Kd.R_alloc | apply Kd.R_drewN | apply Kd.R_drew)); exact HO_24.out⟩, ⟨by (with_reducible repeat (first | refine blk_drewN ?_ _ | refine blk_drew ?_ | refine blk_alloc ?_ _)); exact BK73001.out⟩, ⟨by (with_reducible repeat (first | refine blk_drewN ?_ _ | refine blk_drew ?_ | refine blk_alloc ?_ _)); exact BK73002.out⟩, ⟨by repeat (first | (with_reducible first | exact HB.out | apply below_alloc | apply pw_below_drewN | apply below_drew1 | refine below_set ?_ GE73001.out | refine below_set ?_ GE73002.out) | exact HB.out)⟩⟩
                      · rw [if_neg c24] at H
                        exact absurd H (by simp)
                    · rw [if_neg c23] at H
                      exact absurd H (by simp)
                  · rw [if_neg c22] at H
                    exact absurd H (by simp)
                · rw [if_neg c21] at H
                  exact absurd H (by simp)
              · rw [if_neg c20] at H
                exact absurd H (by simp)
            · rw [if_neg c19] at H
              have c19b0 : decide (x26_2 < (t73003.length : Int)) = false := decide_eq_false c19
              clear c19
              have H' := Aside0.mk H
              clear H
              have hnb36 := NB73002_73001.out
              have hnc36 := NB73001_73002.out
              have hcz37_0 : wr.cell? ⟨gb73002, 0, none⟩ = some (.slice A1_0 l1_0.length c1_0) := (blk_cell BK73002.out 0).trans rfl
              have hcz37_1 : wr.cell? ⟨gb73002, 1, none⟩ = some (.slice A1_1 l1_1.length c1_1) := (blk_cell BK73002.out 1).trans rfl
              have hfz37_0 := blk_frozen BK73002.out 0
              have hfz37_1 := blk_frozen BK73002.out 1
              go_wp2
              repeat (go_quiet (fail); try go_wp2)
              go_loopg [61] k2 (fun kq v61 w' => ∃ (x61_3 : Int), v61 = .int .i64 x61_3 ∧ Aside0 (impl_isChoice.l1 kq l1_1 (l1_1.length : Int) x61_3 l0_0 l0_1 a0_2 = some r) ∧ Aside0 (kq ≤ k2) ∧ Aside0 (w'.heap[gb73001]? = some (.cells #[(.slice A0_0 l0_0.length c0_0), (.slice A0_1 l0_1.length c0_1), .int .i64 a0_2] 35 (0, 0))) ∧ Aside0 (w'.heap[gb73002]? = some (.cells #[(.slice A1_0 l1_0.length c1_0), (.slice A1_1 l1_1.length c1_1)] 37 (0, 0))) ∧ Aside0 (Below w.heap.size w w'))
              case atStart => exact ⟨(0), (by first | rfl | (simp; done) | (simp [*]; done)), H', ⟨Nat.le_refl _⟩, ⟨by (with_reducible repeat (first | refine blk_drewN ?_ _ | refine blk_drew ?_ | refine blk_alloc ?_ _)); exact BK73001.out⟩, ⟨by (with_reducible repeat (first | refine blk_drewN ?_ _ | refine blk_drew ?_ | refine blk_alloc ?_ _)); exact BK73002.out⟩, ⟨by repeat (first | (with_reducible first | exact HB.out | apply below_alloc | apply pw_below_drewN | apply below_drew1 | refine below_set ?_ GE73001.out | refine below_set ?_ GE73002.out) | exact HB.out)⟩⟩
              case round =>
                clear H'
                try clear c1
                try clear c2
                try clear p2
                try clear c3
                try clear p6
                try clear c7
                try clear p7
                try clear q7
                try clear hx7
                try clear c10
                try clear c10b0
                try clear c10b1
                try clear c10b2
                try clear c11
                try clear c14
                try clear c17
                try clear c19
                try clear c19b0
                try clear c20
                try clear c20b0
                try clear c21
                try clear c21b0
                try clear c22
                try clear c22b0
                try clear c23
                try clear c23b0
                try clear c24
                try clear c24b0
                try clear c25
                try clear c25b0
                try clear c26
                try clear c29
                try clear c29b0
                try clear c30
                try clear c33
                try clear c36
                try clear hcz12_0
                try clear hcz12_1
                try clear hcz15_0
                try clear hcz15_1
                try clear hcz27_0
                try clear hcz27_1
                try clear hcz28_0
                try clear hcz28_1
                try clear hcz28_2
                try clear hcz31_0
                try clear hcz31_1
                try clear hcz32_0
                try clear hcz32_1
                try clear hcz32_2
                try clear hcz34_0
                try clear hcz34_1
                try clear hcz35_0
                try clear hcz35_1
                try clear hcz35_2
                try clear hcz37_0
                try clear hcz37_1
                try clear hcz8_0
                try clear hcz8_1
                try clear hcz8_2
                try clear hfz12_0
                try clear hfz12_1
                try clear hfz15_0
                try clear hfz15_1
                try clear hfz27_0
                try clear hfz27_1
                try clear hfz28_0
                try clear hfz28_1
                try clear hfz28_2
                try clear hfz31_0
                try clear hfz31_1
                try clear hfz32_0
                try clear hfz32_1
                try clear hfz32_2
                try clear hfz34_0
                try clear hfz34_1
                try clear hfz35_0
                try clear hfz35_1
                try clear hfz35_2
                try clear hfz37_0
                try clear hfz37_1
                try clear hfz8_0
                try clear hfz8_1
                try clear hfz8_2
                try clear hx73006_0
                try clear hx73007_0
                try clear hx73008_0
                try clear hx73008_1
                try clear hx73008_2
                try clear hx73008_3
                try clear hx73008_4
                try clear hx73009_0
                try clear hx73010_0
                try clear hx73010_1
                try clear hx73010_2
                try clear hx73010_3
                try clear hx73010_4
                try clear p2
                try clear p73006
                try clear p73007
                try clear p73008
                try clear p73009
                try clear p73010
                try clear q73006
                try clear q73007
                try clear q73008
                try clear q73009
                try clear q73010
                obtain ⟨x61_3, rfl, HA, HK3, BK73001, BK73002, HB⟩ := hrel
                cases gk with
                | zero => exact absurd HA.out (by simp [impl_isChoice.l1])
                | succ k3 =>
                  have H := HA.out
                  clear HA
                  simp only [impl_isChoice.l1] at H
                  by_cases c38 : x61_3 < (l1_1.length : Int)
                  · rw [if_pos c38] at H
                    have c38b0 : decide (x61_3 < (l1_1.length : Int)) = true := decide_eq_true c38
                    clear c38
                    by_cases c39 : 0 ≤ x61_3
                    · rw [if_pos c39] at H
                      have c39b0 : decide (0 ≤ x61_3) = true := decide_eq_true c39
                      clear c39
                      by_cases c40 : x61_3 < (l1_1.length : Int)
                      · rw [if_pos c40] at H
                        have c40b0 : decide (x61_3 < (l1_1.length : Int)) = true := decide_eq_true c40
                        clear c40
                        by_cases c41 : (rd l1_1 x61_3) = 1
                        · rw [if_pos c41] at H
                          have c41b0 : ((rd l1_1 x61_3) == 1) = true := beq_iff_eq.mpr c41
                          have c41b1 : ((rd l1_1 x61_3) != 1) = false := bne_eq_false_iff_eq.mpr c41
                          clear c41
                          by_cases c42 : (rd l1_1 x61_3) = (-1)
                          · rw [if_pos c42] at H
                            have c42b0 : ((rd l1_1 x61_3) == (-1)) = true := beq_iff_eq.mpr c42
                            have c42b1 : ((rd l1_1 x61_3) != (-1)) = false := bne_eq_false_iff_eq.mpr c42
                            clear c42
                            replace H := Option.bind_eq_some_iff.mp H
                            obtain ⟨t73012, A430, H⟩ := H
                            replace H : (if t73012 < 0 then (some false) else (impl_isChoice.l1 k3 l1_1 (l1_1.length : Int) (wrap64 (x61_3 + 1)) l0_0 l0_1 a0_2)) = some r := H
                            have A43 := Aside0.mk A430
                            clear A430
                            by_cases c44 : t73012 < 0
                            · rw [if_pos c44] at H
                              have c44b0 : decide (t73012 < 0) = true := decide_eq_true c44
                              clear c44
                              obtain rfl := Option.some.inj H
                              have p73011 : 0 ≤ (x61_3 : Int) := of_decide_eq_true (by first | (with_reducible assumption) | assumption)
                              have q73011 : x61_3 < (l1_1.length : Int) := of_decide_eq_true (by first | (with_reducible assumption) | assumption)
                              obtain ⟨ad73011, e73011, hx73011_0⟩ := Kd.at_int HR1_1.out x61_3 p73011 q73011
                              cases e73011
                              replace hx73011_0 := (HB.out.cell (World.block_lt_of_cell? w _ hx73011_0)).trans hx73011_0
                              replace p73011 := eq_true p73011
                              replace q73011 := eq_true q73011
                              have hnb45 := NB73001_73002.out
                              have hnc45 := NB73002_73001.out
                              have hcz46_0 : wr.cell? ⟨gb73001, 0, none⟩ = some (.slice A0_0 l0_0.length c0_0) := (blk_cell BK73001.out 0).trans rfl
                              have hcz46_1 : wr.cell? ⟨gb73001, 1, none⟩ = some (.slice A0_1 l0_1.length c0_1) := (blk_cell BK73001.out 1).trans rfl
                              have hcz46_2 : wr.cell? ⟨gb73001, 2, none⟩ = some (.int .i64 a0_2) := (blk_cell BK73001.out 2).trans rfl
                              have hfz46_0 := blk_frozen BK73001.out 0
                              have hfz46_1 := blk_frozen BK73001.out 1
                              have hfz46_2 := blk_frozen BK73001.out 2
                              go_wp2_with (first | (go_at_call 126; (with_reducible refine (impl_watcher.calls _ _ l0_0 _ _ l0_1 a0_2 (wrap64 (x61_3 + 1)) t73012 _ ?side1 ?side2 ?side3 ?side4 A43.out).mono ?_); (case side1 => repeat (first | exact (Kd.C_below HR0_0.out HB.out) | (with_reducible refine Kd.C_alloc ?_ _) | (with_reducible refine Kd.C_drewN ?_ _) | (with_reducible refine Kd.C_drew ?_))); (case side2 => exact HC0_0.out); (case side3 => repeat (first | exact (Kd.C_below HR0_1.out HB.out) | (with_reducible refine Kd.C_alloc ?_ _) | (with_reducible refine Kd.C_drewN ?_ _) | (with_reducible refine Kd.C_drew ?_))); (case side4 => exact HC0_1.out); rintro e w47 ⟨rfl, hb⟩; have n0_ := Aside0.mk (blk_below (g := gb73001) (o := .cells #[.slice A0_0 l0_0.length c0_0, .slice A0_1 l0_1.length c0_1, .int .i64 a0_2] 35 (0, 0)) (by (with_reducible repeat (first | refine blk_drewN ?_ _ | refine blk_drew ?_ | refine blk_alloc ?_ _)); exact BK73001.out) hb); have n1_ := Aside0.mk (blk_below (g := gb73002) (o := .cells #[.slice A1_0 l1_0.length c1_0, .slice (some ad73011) l1_1.length c1_1] 37 (0, 0)) (by (with_reducible repeat (first | refine blk_drewN ?_ _ | refine blk_drew ?_ | refine blk_alloc ?_ _)); exact BK73002.out) hb); have n2_ := Aside0.mk (below_step (by repeat (first | (with_reducible first | exact HB.out | apply below_alloc | apply pw_below_drewN | apply below_drew1 | refine below_set ?_ GE73001.out | refine below_set ?_ GE73002.out) | exact HB.out)) hb); clear BK73001; clear BK73002; clear HB; have BK73001 := n0_; have BK73002 := n1_; have HB := n2_; clear n0_ n1_ n2_; (try clear hb); (try clear hb2); (try clear hk); (try clear hi)))
                              repeat (go_quiet (first | (go_at_call 126; (with_reducible refine (impl_watcher.calls _ _ l0_0 _ _ l0_1 a0_2 (wrap64 (x61_3 + 1)) t73012 _ ?side1 ?side2 ?side3 ?side4 A43.out).mono ?_); (case side1 => repeat (first | exact (Kd.C_below HR0_0.out HB.out) | (with_reducible refine Kd.C_alloc ?_ _) | (with_reducible refine Kd.C_drewN ?_ _) | (with_reducible refine Kd.C_drew ?_))); (case side2 => exact HC0_0.out); (case side3 => repeat (first | exact (Kd.C_below HR0_1.out HB.out) | (with_reducible refine Kd.C_alloc ?_ _) | (with_reducible refine Kd.C_drewN ?_ _) | (with_reducible refine Kd.C_drew ?_))); (case side4 => exact HC0_1.out); rintro e w47 ⟨rfl, hb⟩; have n0_ := Aside0.mk (blk_below (g := gb73001) (o := .cells #[.slice A0_0 l0_0.length c0_0, .slice A0_1 l0_1.length c0_1, .int .i64 a0_2] 35 (0, 0)) (by (with_reducible repeat (first | refine blk_drewN ?_ _ | refine blk_drew ?_ | refine blk_alloc ?_ _)); exact BK73001.out) hb); have n1_ := Aside0.mk (blk_below (g := gb73002) (o := .cells #[.slice A1_0 l1_0.length c1_0, .slice (some ad73011) l1_1.length c1_1] 37 (0, 0)) (by (with_reducible repeat (first | refine blk_drewN ?_ _ | refine blk_drew ?_ | refine blk_alloc ?_ _)); exact BK73002.out) hb); have n2_ := Aside0.mk (below_step (by repeat (first | (with_reducible first | exact HB.out | apply below_alloc | apply pw_below_drewN | apply below_drew1 | refine below_set ?_ GE73001.out | refine below_set ?_ GE73002.out) | exact HB.out)) hb); clear BK73001; clear BK73002; clear HB; have BK73001 := n0_; have BK73002 := n1_; have HB := n2_; clear n0_ n1_ n2_; (try clear hb); (try clear hb2); (try clear hk); (try clear hi))); try go_wp2_with (first | (go_at_call 126; (with_reducible refine (impl_watcher.calls _ _ l0_0 _ _ l0_1 a0_2 (wrap64 (x61_3 + 1)) t73012 _ ?side1 ?side2 ?side3 ?side4 A43.out).mono ?_); (case side1 => repeat (first | exact (Kd.C_below HR0_0.out HB.out) | (with_reducible refine Kd.C_alloc ?_ _) | (with_reducible refine Kd.C_drewN ?_ _) | (with_reducible refine Kd.C_drew ?_))); (case side2 => exact HC0_0.out); (case side3 => repeat (first | exact (Kd.C_below HR0_1.out HB.out) | (with_reducible refine Kd.C_alloc ?_ _) | (with_reducible refine Kd.C_drewN ?_ _) | (with_reducible refine Kd.C_drew ?_))); (case side4 => exact HC0_1.out); rintro e w47 ⟨rfl, hb⟩; have n0_ := Aside0.mk (blk_below (g := gb73001) (o := .cells #[.slice A0_0 l0_0.length c0_0, .slice A0_1 l0_1.length c0_1, .int .i64 a0_2] 35 (0, 0)) (by (with_reducible repeat (first | refine blk_drewN ?_ _ | refine blk_drew ?_ | refine blk_alloc ?_ _)); exact BK73001.out) hb); have n1_ := Aside0.mk (blk_below (g := gb73002) (o := .cells #[.slice A1_0 l1_0.length c1_0, .slice (some ad73011) l1_1.length c1_1] 37 (0, 0)) (by (with_reducible repeat (first | refine blk_drewN ?_ _ | refine blk_drew ?_ | refine blk_alloc ?_ _)); exact BK73002.out) hb); have n2_ := Aside0.mk (below_step (by repeat (first | (with_reducible first | exact HB.out | apply below_alloc | apply pw_below_drewN | apply below_drew1 | refine below_set ?_ GE73001.out | refine below_set ?_ GE73002.out) | exact HB.out)) hb); clear BK73001; clear BK73002; clear HB; have BK73001 := n0_; have BK73002 := n1_; have HB := n2_; clear n0_ n1_ n2_; (try clear hb); (try clear hb2); (try clear hk); (try clear hi))))
                              go_ret
                              exact ⟨by first | rfl | (simp [errW_none, errW_some] <;> rfl) | (simp [*, errW_none, errW_some] <;> rfl), by repeat (first | (with_reducible first | exact HB.out | apply below_alloc | apply pw_below_drewN | apply below_drew1 | refine below_set ?_ GE73001.out | refine below_set ?_ GE73002.out) | exact HB.out)⟩
                            · rw [if_neg c44] at H
                              have c44b0 : decide (t73012 < 0) = false := decide_eq_false c44
                              clear c44
                              have H' := Aside0.mk H
                              clear H
                              have p73011 : 0 ≤ (x61_3 : Int) := of_decide_eq_true (by first | (with_reducible assumption) | assumption)
                              have q73011 : x61_3 < (l1_1.length : Int) := of_decide_eq_true (by first | (with_reducible assumption) | assumption)
                              obtain ⟨ad73011, e73011, hx73011_0⟩ := Kd.at_int HR1_1.out x61_3 p73011 q73011
                              cases e73011
                              replace hx73011_0 := (HB.out.cell (World.block_lt_of_cell? w _ hx73011_0)).trans hx73011_0
                              replace p73011 := eq_true p73011
                              replace q73011 := eq_true q73011
                              have hnb48 := NB73001_73002.out
                              have hnc48 := NB73002_73001.out
                              have hcz49_0 : wr.cell? ⟨gb73001, 0, none⟩ = some (.slice A0_0 l0_0.length c0_0) := (blk_cell BK73001.out 0).trans rfl
                              have hcz49_1 : wr.cell? ⟨gb73001, 1, none⟩ = some (.slice A0_1 l0_1.length c0_1) := (blk_cell BK73001.out 1).trans rfl
                              have hcz49_2 : wr.cell? ⟨gb73001, 2, none⟩ = some (.int .i64 a0_2) := (blk_cell BK73001.out 2).trans rfl
                              have hfz49_0 := blk_frozen BK73001.out 0
                              have hfz49_1 := blk_frozen BK73001.out 1
                              have hfz49_2 := blk_frozen BK73001.out 2
                              go_wp2_with (first | (go_at_call 126; (with_reducible refine (impl_watcher.calls _ _ l0_0 _ _ l0_1 a0_2 (wrap64 (x61_3 + 1)) t73012 _ ?side1 ?side2 ?side3 ?side4 A43.out).mono ?_); (case side1 => repeat (first | exact (Kd.C_below HR0_0.out HB.out) | (with_reducible refine Kd.C_alloc ?_ _) | (with_reducible refine Kd.C_drewN ?_ _) | (with_reducible refine Kd.C_drew ?_))); (case side2 => exact HC0_0.out); (case side3 => repeat (first | exact (Kd.C_below HR0_1.out HB.out) | (with_reducible refine Kd.C_alloc ?_ _) | (with_reducible refine Kd.C_drewN ?_ _) | (with_reducible refine Kd.C_drew ?_))); (case side4 => exact HC0_1.out); rintro e w50 ⟨rfl, hb⟩; have n0_ := Aside0.mk (blk_below (g := gb73001) (o := .cells #[.slice A0_0 l0_0.length c0_0, .slice A0_1 l0_1.length c0_1, .int .i64 a0_2] 35 (0, 0)) (by (with_reducible repeat (first | refine blk_drewN ?_ _ | refine blk_drew ?_ | refine blk_alloc ?_ _)); exact BK73001.out) hb); have n1_ := Aside0.mk (blk_below (g := gb73002) (o := .cells #[.slice A1_0 l1_0.length c1_0, .slice (some ad73011) l1_1.length c1_1] 37 (0, 0)) (by (with_reducible repeat (first | refine blk_drewN ?_ _ | refine blk_drew ?_ | refine blk_alloc ?_ _)); exact BK73002.out) hb); have n2_ := Aside0.mk (below_step (by repeat (first | (with_reducible first | exact HB.out | apply below_alloc | apply pw_below_drewN | apply below_drew1 | refine below_set ?_ GE73001.out | refine below_set ?_ GE73002.out) | exact HB.out)) hb); clear BK73001; clear BK73002; clear HB; have BK73001 := n0_; have BK73002 := n1_; have HB := n2_; clear n0_ n1_ n2_; (try clear hb); (try clear hb2); (try clear hk); (try clear hi)))
                              repeat (go_quiet (first | (go_at_call 126; (with_reducible refine (impl_watcher.calls _ _ l0_0 _ _ l0_1 a0_2 (wrap64 (x61_3 + 1)) t73012 _ ?side1 ?side2 ?side3 ?side4 A43.out).mono ?_); (case side1 => repeat (first | exact (Kd.C_below HR0_0.out HB.out) | (with_reducible refine Kd.C_alloc ?_ _) | (with_reducible refine Kd.C_drewN ?_ _) | (with_reducible refine Kd.C_drew ?_))); (case side2 => exact HC0_0.out); (case side3 => repeat (first | exact (Kd.C_below HR0_1.out HB.out) | (with_reducible refine Kd.C_alloc ?_ _) | (with_reducible refine Kd.C_drewN ?_ _) | (with_reducible refine Kd.C_drew ?_))); (case side4 => exact HC0_1.out); rintro e w50 ⟨rfl, hb⟩; have n0_ := Aside0.mk (blk_below (g := gb73001) (o := .cells #[.slice A0_0 l0_0.length c0_0, .slice A0_1 l0_1.length c0_1, .int .i64 a0_2] 35 (0, 0)) (by (with_reducible repeat (first | refine blk_drewN ?_ _ | refine blk_drew ?_ | refine blk_alloc ?_ _)); exact BK73001.out) hb); have n1_ := Aside0.mk (blk_below (g := gb73002) (o := .cells #[.slice A1_0 l1_0.length c1_0, .slice (some ad73011) l1_1.length c1_1] 37 (0, 0)) (by (with_reducible repeat (first | refine blk_drewN ?_ _ | refine blk_drew ?_ | refine blk_alloc ?_ _)); exact BK73002.out) hb); have n2_ := Aside0.mk (below_step (by repeat (first | (with_reducible first | exact HB.out | apply below_alloc | apply pw_below_drewN | apply below_drew1 | refine below_set ?_ GE73001.out | refine below_set ?_ GE73002.out) | exact HB.out)) hb); clear BK73001; clear BK73002; clear HB; have BK73001 := n0_; have BK73002 := n1_; have HB := n2_; clear n0_ n1_ n2_; (try clear hb); (try clear hb2); (try clear hk); (try clear hi))); try go_wp2_with (first | (go_at_call 126; (with_reducible refine (impl_watcher.calls _ _ l0_0 _ _ l0_1 a0_2 (wrap64 (x61_3 + 1)) t73012 _ ?side1 ?side2 ?side3 ?side4 A43.out).mono ?_); (case side1 => repeat (first | exact (Kd.C_below HR0_0.out HB.out) | (with_reducible refine Kd.C_alloc ?_ _) | (with_reducible refine Kd.C_drewN ?_ _) | (with_reducible refine Kd.C_drew ?_))); (case side2 => exact HC0_0.out); (case side3 => repeat (first | exact (Kd.C_below HR0_1.out HB.out) | (with_reducible refine Kd.C_alloc ?_ _) | (with_reducible refine Kd.C_drewN ?_ _) | (with_reducible refine Kd.C_drew ?_))); (case side4 => exact HC0_1.out); rintro e w50 ⟨rfl, hb⟩; have n0_ := Aside0.mk (blk_below (g := gb73001) (o := .cells #[.slice A0_0 l0_0.length c0_0, .slice A0_1 l0_1.length c0_1, .int .i64 a0_2] 35 (0, 0)) (by (with_reducible repeat (first | refine blk_drewN ?_ _ | refine blk_drew ?_ | refine blk_alloc ?_ _)); exact BK73001.out) hb); have n1_ := Aside0.mk (blk_below (g := gb73002) (o := .cells #[.slice A1_0 l1_0.length c1_0, .slice (some ad73011) l1_1.length c1_1] 37 (0, 0)) (by (with_reducible repeat (first | refine blk_drewN ?_ _ | refine blk_drew ?_ | refine blk_alloc ?_ _)); exact BK73002.out) hb); have n2_ := Aside0.mk (below_step (by repeat (first | (with_reducible first | exact HB.out | apply below_alloc | apply pw_below_drewN | apply below_drew1 | refine below_set ?_ GE73001.out | refine below_set ?_ GE73002.out) | exact HB.out)) hb); clear BK73001; clear BK73002; clear HB; have BK73001 := n0_; have BK73002 := n1_; have HB := n2_; clear n0_ n1_ n2_; (try clear hb); (try clear hb2); (try clear hk); (try clear hi))))
                              go_roundg k3
                              case measure => have := HJ3.out; have := HK2.out; have := HK3.out; omega
                              case rel => exact ⟨(wrap64 (x61_3 + 1)), (by first | rfl | (simp; done) | (simp [*]; done)), H', ⟨by have := HJ3.out; have := HK2.out; have := HK3.out; omega⟩, ⟨by (with_reducible repeat (first | refine blk_drewN ?_ _ | refine blk_drew ?_ | refine blk_alloc ?_ _)); exact BK73001.out⟩, ⟨by (with_reducible repeat (first | refine blk_drewN ?_ _ | refine blk_drew ?_ | refine blk_alloc ?_ _)); exact BK73002.out⟩, ⟨by repeat (first | (with_reducible first | exact HB.out | apply below_alloc | apply pw_below_drewN | apply below_drew1 | refine below_set ?_ GE73001.out | refine below_set ?_ GE73002.out) | exact HB.out)⟩⟩
                          · rw [if_neg c42] at H
                            have c42b0 : ((rd l1_1 x61_3) == (-1)) = false := beq_eq_false_iff_ne.mpr c42
                            have c42b1 : ((rd l1_1 x61_3) != (-1)) = true := bne_iff_ne.mpr c42
                            have H' := Aside0.mk H
                            clear H
                            have p73011 : 0 ≤ (x61_3 : Int) := of_decide_eq_true (by first | (with_reducible assumption) | assumption)
                            have q73011 : x61_3 < (l1_1.length : Int) := of_decide_eq_true (by first | (with_reducible assumption) | assumption)
                            obtain ⟨ad73011, e73011, hx73011_0⟩ := Kd.at_int HR1_1.out x61_3 p73011 q73011
                            cases e73011
                            replace hx73011_0 := (HB.out.cell (World.block_lt_of_cell? w _ hx73011_0)).trans hx73011_0
                            replace p73011 := eq_true p73011
                            replace q73011 := eq_true q73011
                            go_wp2
                            repeat (go_quiet (fail); try go_wp2)
                            go_roundg k3
                            case measure => have := HJ3.out; have := HK2.out; have := HK3.out; omega
                            case rel => exact ⟨(wrap64 (x61_3 + 1)), (by first | rfl | (simp; done) | (simp [*]; done)), H', ⟨by have := HJ3.out; have := HK2.out; have := HK3.out; omega⟩, ⟨by (with_reducible repeat (first | refine blk_drewN ?_ _ | refine blk_drew ?_ | refine blk_alloc ?_ _)); exact BK73001.out⟩, ⟨by (with_reducible repeat (first | refine blk_drewN ?_ _ | refine blk_drew ?_ | refine blk_alloc ?_ _)); exact BK73002.out⟩, ⟨by repeat (first | (with_reducible first | exact HB.out | apply below_alloc | apply pw_below_drewN | apply below_drew1 | refine below_set ?_ GE73001.out | refine below_set ?_ GE73002.out) | exact HB.out)⟩⟩
                        · rw [if_neg c41] at H
                          have c41b0 : ((rd l1_1 x61_3) == 1) = false := beq_eq_false_iff_ne.mpr c41
                          have c41b1 : ((rd l1_1 x61_3) != 1) = true := bne_iff_ne.mpr c41
                          by_cases c51 : (rd l1_1 x61_3) = (-1)
                          · rw [if_pos c51] at H
                            have c51b0 : ((rd l1_1 x61_3) == (-1)) = true := beq_iff_eq.mpr c51
                            have c51b1 : ((rd l1_1 x61_3) != (-1)) = false := bne_eq_false_iff_eq.mpr c51
                            clear c51
                            replace H := Option.bind_eq_some_iff.mp H
                            obtain ⟨t73013, A520, H⟩ := H
                            replace H : (if t73013 < 0 then (some false) else (impl_isChoice.l1 k3 l1_1 (l1_1.length : Int) (wrap64 (x61_3 + 1)) l0_0 l0_1 a0_2)) = some r := H
                            have A52 := Aside0.mk A520
                            clear A520
                            by_cases c53 : t73013 < 0
                            · rw [if_pos c53] at H
                              have c53b0 : decide (t73013 < 0) = true := decide_eq_true c53
                              clear c53
                              obtain rfl := Option.some.inj H
                              have p73011 : 0 ≤ (x61_3 : Int) := of_decide_eq_true (by first | (with_reducible assumption) | assumption)
                              have q73011 : x61_3 < (l1_1.length : Int) := of_decide_eq_true (by first | (with_reducible assumption) | assumption)
                              obtain ⟨ad73011, e73011, hx73011_0⟩ := Kd.at_int HR1_1.out x61_3 p73011 q73011
                              cases e73011
                              replace hx73011_0 := (HB.out.cell (World.block_lt_of_cell? w _ hx73011_0)).trans hx73011_0
                              replace p73011 := eq_true p73011
                              replace q73011 := eq_true q73011
                              have hnb54 := NB73001_73002.out
                              have hnc54 := NB73002_73001.out
                              have hcz55_0 : wr.cell? ⟨gb73001, 0, none⟩ = some (.slice A0_0 l0_0.length c0_0) := (blk_cell BK73001.out 0).trans rfl
                              have hcz55_1 : wr.cell? ⟨gb73001, 1, none⟩ = some (.slice A0_1 l0_1.length c0_1) := (blk_cell BK73001.out 1).trans rfl
                              have hcz55_2 : wr.cell? ⟨gb73001, 2, none⟩ = some (.int .i64 a0_2) := (blk_cell BK73001.out 2).trans rfl
                              have hfz55_0 := blk_frozen BK73001.out 0
                              have hfz55_1 := blk_frozen BK73001.out 1
                              have hfz55_2 := blk_frozen BK73001.out 2
                              go_wp2_with (first | (go_at_call 126; (with_reducible refine (impl_watcher.calls _ _ l0_0 _ _ l0_1 a0_2 (wrap64 (x61_3 + 1)) t73013 _ ?side1 ?side2 ?side3 ?side4 A52.out).mono ?_); (case side1 => repeat (first | exact (Kd.C_below HR0_0.out HB.out) | (with_reducible refine Kd.C_alloc ?_ _) | (with_reducible refine Kd.C_drewN ?_ _) | (with_reducible refine Kd.C_drew ?_))); (case side2 => exact HC0_0.out); (case side3 => repeat (first | exact (Kd.C_below HR0_1.out HB.out) | (with_reducible refine Kd.C_alloc ?_ _) | (with_reducible refine Kd.C_drewN ?_ _) | (with_reducible refine Kd.C_drew ?_))); (case side4 => exact HC0_1.out); rintro e w56 ⟨rfl, hb⟩; have n0_ := Aside0.mk (blk_below (g := gb73001) (o := .cells #[.slice A0_0 l0_0.length c0_0, .slice A0_1 l0_1.length c0_1, .int .i64 a0_2] 35 (0, 0)) (by (with_reducible repeat (first | refine blk_drewN ?_ _ | refine blk_drew ?_ | refine blk_alloc ?_ _)); exact BK73001.out) hb); have n1_ := Aside0.mk (blk_below (g := gb73002) (o := .cells #[.slice A1_0 l1_0.length c1_0, .slice (some ad73011) l1_1.length c1_1] 37 (0, 0)) (by (with_reducible repeat (first | refine blk_drewN ?_ _ | refine blk_drew ?_ | refine blk_alloc ?_ _)); exact BK73002.out) hb); have n2_ := Aside0.mk (below_step (by repeat (first | (with_reducible first | exact HB.out | apply below_alloc | apply pw_below_drewN | apply below_drew1 | refine below_set ?_ GE73001.out | refine below_set ?_ GE73002.out) | exact HB.out)) hb); clear BK73001; clear BK73002; clear HB; have BK73001 := n0_; have BK73002 := n1_; have HB := n2_; clear n0_ n1_ n2_; (try clear hb); (try clear hb2); (try clear hk); (try clear hi)))
                              repeat (go_quiet (first | (go_at_call 126; (with_reducible refine (impl_watcher.calls _ _ l0_0 _ _ l0_1 a0_2 (wrap64 (x61_3 + 1)) t73013 _ ?side1 ?side2 ?side3 ?side4 A52.out).mono ?_); (case side1 => repeat (first | exact (Kd.C_below HR0_0.out HB.out) | (with_reducible refine Kd.C_alloc ?_ _) | (with_reducible refine Kd.C_drewN ?_ _) | (with_reducible refine Kd.C_drew ?_))); (case side2 => exact HC0_0.out); (case side3 => repeat (first | exact (Kd.C_below HR0_1.out HB.out) | (with_reducible refine Kd.C_alloc ?_ _) | (with_reducible refine Kd.C_drewN ?_ _) | (with_reducible refine Kd.C_drew ?_))); (case side4 => exact HC0_1.out); rintro e w56 ⟨rfl, hb⟩; have n0_ := Aside0.mk (blk_below (g := gb73001) (o := .cells #[.slice A0_0 l0_0.length c0_0, .slice A0_1 l0_1.length c0_1, .int .i64 a0_2] 35 (0, 0)) (by (with_reducible repeat (first | refine blk_drewN ?_ _ | refine blk_drew ?_ | refine blk_alloc ?_ _)); exact BK73001.out) hb); have n1_ := Aside0.mk (blk_below (g := gb73002) (o := .cells #[.slice A1_0 l1_0.length c1_0, .slice (some ad73011) l1_1.length c1_1] 37 (0, 0)) (by (with_reducible repeat (first | refine blk_drewN ?_ _ | refine blk_drew ?_ | refine blk_alloc ?_ _)); exact BK73002.out) hb); have n2_ := Aside0.mk (below_step (by repeat (first | (with_reducible first | exact HB.out | apply below_alloc | apply pw_below_drewN | apply below_drew1 | refine below_set ?_ GE73001.out | refine below_set ?_ GE73002.out) | exact HB.out)) hb); clear BK73001; clear BK73002; clear HB; have BK73001 := n0_; have BK73002 := n1_; have HB := n2_; clear n0_ n1_ n2_; (try clear hb); (try clear hb2); (try clear hk); (try clear hi))); try go_wp2_with (first | (go_at_call 126; (with_reducible refine (impl_watcher.calls _ _ l0_0 _ _ l0_1 a0_2 (wrap64 (x61_3 + 1)) t73013 _ ?side1 ?side2 ?side3 ?side4 A52.out).mono ?_); (case side1 => repeat (first | exact (Kd.C_below HR0_0.out HB.out) | (with_reducible refine Kd.C_alloc ?_ _) | (with_reducible refine Kd.C_drewN ?_ _) | (with_reducible refine Kd.C_drew ?_))); (case side2 => exact HC0_0.out); (case side3 => repeat (first | exact (Kd.C_below HR0_1.out HB.out) | (with_reducible refine Kd.C_alloc ?_ _) | (with_reducible refine Kd.C_drewN ?_ _) | (with_reducible refine Kd.C_drew ?_))); (case side4 => exact HC0_1.out); rintro e w56 ⟨rfl, hb⟩; have n0_ := Aside0.mk (blk_below (g := gb73001) (o := .cells #[.slice A0_0 l0_0.length c0_0, .slice A0_1 l0_1.length c0_1, .int .i64 a0_2] 35 (0, 0)) (by (with_reducible repeat (first | refine blk_drewN ?_ _ | refine blk_drew ?_ | refine blk_alloc ?_ _)); exact BK73001.out) hb); have n1_ := Aside0.mk (blk_below (g := gb73002) (o := .cells #[.slice A1_0 l1_0.length c1_0, .slice (some ad73011) l1_1.length c1_1] 37 (0, 0)) (by (with_reducible repeat (first | refine blk_drewN ?_ _ | refine blk_drew ?_ | refine blk_alloc ?_ _)); exact BK73002.out) hb); have n2_ := Aside0.mk (below_step (by repeat (first | (with_reducible first | exact HB.out | apply below_alloc | apply pw_below_drewN | apply below_drew1 | refine below_set ?_ GE73001.out | refine below_set ?_ GE73002.out) | exact HB.out)) hb); clear BK73001; clear BK73002; clear HB; have BK73001 := n0_; have BK73002 := n1_; have HB := n2_; clear n0_ n1_ n2_; (try clear hb); (try clear hb2); (try clear hk); (try clear hi))))
                              go_ret
                              exact ⟨by first | rfl | (simp [errW_none, errW_some] <;> rfl) | (simp [*, errW_none, errW_some] <;> rfl), by repeat (first | (with_reducible first | exact HB.out | apply below_alloc | apply pw_below_drewN | apply below_drew1 | refine below_set ?_ GE73001.out | refine below_set ?_ GE73002.out) | exact HB.out)⟩
                            · rw [if_neg c53] at H
                              have c53b0 : decide (t73013 < 0) = false := decide_eq_false c53
                              clear c53
                              have H' := Aside0.mk H
                              clear H
                              have p73011 : 0 ≤ (x61_3 : Int) := of_decide_eq_true (by first | (with_reducible assumption) | assumption)
                              have q73011 : x61_3 < (l1_1.length : Int) := of_decide_eq_true (by first | (with_reducible assumption) | assumption)
                              obtain ⟨ad73011, e73011, hx73011_0⟩ := Kd.at_int HR1_1.out x61_3 p73011 q73011
                              cases e73011
                              replace hx73011_0 := (HB.out.cell (World.block_lt_of_cell? w _ hx73011_0)).trans hx73011_0
                              replace p73011 := eq_true p73011
                              replace q73011 := eq_true q73011
                              have hnb57 := NB73001_73002.out
                              have hnc57 := NB73002_73001.out
                              have hcz58_0 : wr.cell? ⟨gb73001, 0, none⟩ = some (.slice A0_0 l0_0.length c0_0) := (blk_cell BK73001.out 0).trans rfl
                              have hcz58_1 : wr.cell? ⟨gb73001, 1, none⟩ = some (.slice A0_1 l0_1.length c0_1) := (blk_cell BK73001.out 1).trans rfl
                              have hcz58_2 : wr.cell? ⟨gb73001, 2, none⟩ = some (.int .i64 a0_2) := (blk_cell BK73001.out 2).trans rfl
                              have hfz58_0 := blk_frozen BK73001.out 0
                              have hfz58_1 := blk_frozen BK73001.out 1
                              have hfz58_2 := blk_frozen BK73001.out 2
                              go_wp2_with (first | (go_at_call 126; (with_reducible refine (impl_watcher.calls _ _ l0_0 _ _ l0_1 a0_2 (wrap64 (x61_3 + 1)) t73013 _ ?side1 ?side2 ?side3 ?side4 A52.out).mono ?_); (case side1 => repeat (first | exact (Kd.C_below HR0_0.out HB.out) | (with_reducible refine Kd.C_alloc ?_ _) | (with_reducible refine Kd.C_drewN ?_ _) | (with_reducible refine Kd.C_drew ?_))); (case side2 => exact HC0_0.out); (case side3 => repeat (first | exact (Kd.C_below HR0_1.out HB.out) | (with_reducible refine Kd.C_alloc ?_ _) | (with_reducible refine Kd.C_drewN ?_ _) | (with_reducible refine Kd.C_drew ?_))); (case side4 => exact HC0_1.out); rintro e w59 ⟨rfl, hb⟩; have n0_ := Aside0.mk (blk_below (g := gb73001) (o := .cells #[.slice A0_0 l0_0.length c0_0, .slice A0_1 l0_1.length c0_1, .int .i64 a0_2] 35 (0, 0)) (by (with_reducible repeat (first | refine blk_drewN ?_ _ | refine blk_drew ?_ | refine blk_alloc ?_ _)); exact BK73001.out) hb); have n1_ := Aside0.mk (blk_below (g := gb73002) (o := .cells #[.slice A1_0 l1_0.length c1_0, .slice (some ad73011) l1_1.length c1_1] 37 (0, 0)) (by (with_reducible repeat (first | refine blk_drewN ?_ _ | refine blk_drew ?_ | refine blk_alloc ?_ _)); exact BK73002.out) hb); have n2_ := Aside0.mk (below_step (by repeat (first | (with_reducible first | exact HB.out | apply below_alloc | apply pw_below_drewN | apply below_drew1 | refine below_set ?_ GE73001.out | refine below_set ?_ GE73002.out) | exact HB.out)) hb); clear BK73001; clear BK73002; clear HB; have BK73001 := n0_; have BK73002 := n1_; have HB := n2_; clear n0_ n1_ n2_; (try clear hb); (try clear hb2); (try clear hk); (try clear hi)))
                              repeat (go_quiet (first | (go_at_call 126; (with_reducible refine (impl_watcher.calls _ _ l0_0 _ _ l0_1 a0_2 (wrap64 (x61_3 + 1)) t73013 _ ?side1 ?side2 ?side3 ?side4 A52.out).mono ?_); (case side1 => repeat (first | exact (Kd.C_below HR0_0.out HB.out) | (with_reducible refine Kd.C_alloc ?_ _) | (with_reducible refine Kd.C_drewN ?_ _) | (with_reducible refine Kd.C_drew ?_))); (case side2 => exact HC0_0.out); (case side3 => repeat (first | exact (Kd.C_below HR0_1.out HB.out) | (with_reducible refine Kd.C_alloc ?_ _) | (with_reducible refine Kd.C_drewN ?_ _) | (with_reducible refine Kd.C_drew ?_))); (case side4 => exact HC0_1.out); rintro e w59 ⟨rfl, hb⟩; have n0_ := Aside0.mk (blk_below (g := gb73001) (o := .cells #[.slice A0_0 l0_0.length c0_0, .slice A0_1 l0_1.length c0_1, .int .i64 a0_2] 35 (0, 0)) (by (with_reducible repeat (first | refine blk_drewN ?_ _ | refine blk_drew ?_ | refine blk_alloc ?_ _)); exact BK73001.out) hb); have n1_ := Aside0.mk (blk_below (g := gb73002) (o := .cells #[.slice A1_0 l1_0.length c1_0, .slice (some ad73011) l1_1.length c1_1] 37 (0, 0)) (by (with_reducible repeat (first | refine blk_drewN ?_ _ | refine blk_drew ?_ | refine blk_alloc ?_ _)); exact BK73002.out) hb); have n2_ := Aside0.mk (below_step (by repeat (first | (with_reducible first | exact HB.out | apply below_alloc | apply pw_below_drewN | apply below_drew1 | refine below_set ?_ GE73001.out | refine below_set ?_ GE73002.out) | exact HB.out)) hb); clear BK73001; clear BK73002; clear HB; have BK73001 := n0_; have BK73002 := n1_; have HB := n2_; clear n0_ n1_ n2_; (try clear hb); (try clear hb2); (try clear hk); (try clear hi))); try go_wp2_with (first | (go_at_call 126; (with_reducible refine (impl_watcher.calls _ _ l0_0 _ _ l0_1 a0_2 (wrap64 (x61_3 + 1)) t73013 _ ?side1 ?side2 ?side3 ?side4 A52.out).mono ?_); (case side1 => repeat (first | exact (Kd.C_below HR0_0.out HB.out) | (with_reducible refine Kd.C_alloc ?_ _) | (with_reducible refine Kd.C_drewN ?_ _) | (with_reducible refine Kd.C_drew ?_))); (case side2 => exact HC0_0.out); (case side3 => repeat (first | exact (Kd.C_below HR0_1.out HB.out) | (with_reducible refine Kd.C_alloc ?_ _) | (with_reducible refine Kd.C_drewN ?_ _) | (with_reducible refine Kd.C_drew ?_))); (case side4 => exact HC0_1.out); rintro e w59 ⟨rfl, hb⟩; have n0_ := Aside0.mk (blk_below (g := gb73001) (o := .cells #[.slice A0_0 l0_0.length c0_0, .slice A0_1 l0_1.length c0_1, .int .i64 a0_2] 35 (0, 0)) (by (with_reducible repeat (first | refine blk_drewN ?_ _ | refine blk_drew ?_ | refine blk_alloc ?_ _)); exact BK73001.out) hb); have n1_ := Aside0.mk (blk_below (g := gb73002) (o := .cells #[.slice A1_0 l1_0.length c1_0, .slice (some ad73011) l1_1.length c1_1] 37 (0, 0)) (by (with_reducible repeat (first | refine blk_drewN ?_ _ | refine blk_drew ?_ | refine blk_alloc ?_ _)); exact BK73002.out) hb); have n2_ := Aside0.mk (below_step (by repeat (first | (with_reducible first | exact HB.out | apply below_alloc | apply pw_below_drewN | apply below_drew1 | refine below_set ?_ GE73001.out | refine below_set ?_ GE73002.out) | exact HB.out)) hb); clear BK73001; clear BK73002; clear HB; have BK73001 := n0_; have BK73002 := n1_; have HB := n2_; clear n0_ n1_ n2_; (try clear hb); (try clear hb2); (try clear hk); (try clear hi))))
                              go_roundg k3
                              case measure => have := HJ3.out; have := HK2.out; have := HK3.out; omega
                              case rel => exact ⟨(wrap64 (x61_3 + 1)), (by first | rfl | (simp; done) | (simp [*]; done)), H', ⟨by have := HJ3.out; have := HK2.out; have := HK3.out; omega⟩, ⟨by (with_reducible repeat (first | refine blk_drewN ?_ _ | refine blk_drew ?_ | refine blk_alloc ?_ _)); exact BK73001.out⟩, ⟨by (with_reducible repeat (first | refine blk_drewN ?_ _ | refine blk_drew ?_ | refine blk_alloc ?_ _)); exact BK73002.out⟩, ⟨by repeat (first | (with_reducible first | exact HB.out | apply below_alloc | apply pw_below_drewN | apply below_drew1 | refine below_set ?_ GE73001.out | refine below_set ?_ GE73002.out) | exact HB.out)⟩⟩
                          · rw [if_neg c51] at H
                            have c51b0 : ((rd l1_1 x61_3) == (-1)) = false := beq_eq_false_iff_ne.mpr c51
                            have c51b1 : ((rd l1_1 x61_3) != (-1)) = true := bne_iff_ne.mpr c51
                            obtain rfl := Option.some.inj H
                            have p73011 : 0 ≤ (x61_3 : Int) := of_decide_eq_true (by first | (with_reducible assumption) | assumption)
                            have q73011 : x61_3 < (l1_1.length : Int) := of_decide_eq_true (by first | (with_reducible assumption) | assumption)
                            obtain ⟨ad73011, e73011, hx73011_0⟩ := Kd.at_int HR1_1.out x61_3 p73011 q73011
                            cases e73011
                            replace hx73011_0 := (HB.out.cell (World.block_lt_of_cell? w _ hx73011_0)).trans hx73011_0
                            replace p73011 := eq_true p73011
                            replace q73011 := eq_true q73011
                            go_wp2
                            repeat (go_quiet (fail); try go_wp2)
                            go_ret
                            exact ⟨by first | rfl | (simp [errW_none, errW_some] <;> rfl) | (simp [*, errW_none, errW_some] <;> rfl), by repeat (first | (with_reducible first | exact HB.out | apply below_alloc | apply pw_below_drewN | apply below_drew1 | refine below_set ?_ GE73001.out | refine below_set ?_ GE73002.out) | exact HB.out)⟩
                      · rw [if_neg c40] at H
                        exact absurd H (by simp)
                    · rw [if_neg c39] at H
                      exact absurd H (by simp)
                  · rw [if_neg c38] at H
                    have c38b0 : decide (x61_3 < (l1_1.length : Int)) = false := decide_eq_false c38
                    clear c38
                    obtain rfl := Option.some.inj H
                    go_wp2
                    repeat (go_quiet (fail); try go_wp2)
                    go_ret
                    exact ⟨by first | rfl | (simp [errW_none, errW_some] <;> rfl) | (simp [*, errW_none, errW_some] <;> rfl), by repeat (first | (with_reducible first | exact HB.out | apply below_alloc | apply pw_below_drewN | apply below_drew1 | refine below_set ?_ GE73001.out | refine below_set ?_ GE73002.out) | exact HB.out)⟩

end Go.Proofs.Ytodfnelilhjoeaa.Pr

namespace Go.Proofs.Ytodfnelilhjoeaa.Pr
open Go.RowKit Go.Proofs.YtodfnelilhjoeaaW.PrintWords Go.Proofs.YtodfnelilhjoeaaW.PrintLast Go.Proofs.YtodfnelilhjoeaaW.PrintMore
attribute [local go_sem] max2_int min2_int max_two min_two max_three min_three max_four min_four
set_option linter.unusedVariables false
set_option linter.unusedSimpArgs false

/-! ### impl_ChoiceOk: function 20 -/
def impl_ChoiceOk.f (k : Nat) (l0_0 : List (S116)) (l0_1 : List (S90)) (a0_2 : Int) (l1_0 : List Int) (l1_1 : List Int) : Option (Bool) := (impl_ShowOk.f l0_0 l0_1 a0_2).bind fun t20003 => (if t20003 = true then ((impl_isChoice.f k l0_0 l0_1 a0_2 l1_0 l1_1).bind fun t20004 => (some t20004)) else (some false))
set_option maxHeartbeats 8000000 in
set_option maxRecDepth 100000 in
theorem impl_ChoiceOk.calls (k : Nat) (A0_0 : Option Addr) (c0_0 : Nat) (l0_0 : List (S116)) (A0_1 : Option Addr) (c0_1 : Nat) (l0_1 : List (S90)) (a0_2 : Int) (A1_0 : Option Addr) (c1_0 : Nat) (l1_0 : List Int) (A1_1 : Option Addr) (c1_1 : Nat) (l1_1 : List Int) (r : Bool) (w : World) (hr0_0 : Kd.C k116 w A0_0 l0_0.length l0_0) (hc0_0 : l0_0.length ≤ c0_0) (hr0_1 : Kd.C k90 w A0_1 l0_1.length l0_1) (hc0_1 : l0_1.length ≤ c0_1) (hr1_0 : Kd.C (Kd.int .i64) w A1_0 l1_0.length l1_0) (hc1_0 : l1_0.length ≤ c1_0) (hr1_1 : Kd.C (Kd.int .i64) w A1_1 l1_1.length l1_1) (hc1_1 : l1_1.length ≤ c1_1) (h : impl_ChoiceOk.f k l0_0 l0_1 a0_2 l1_0 l1_1 = some r) :
    Calls Try.prog 20 #[.agg #[.slice A0_0 l0_0.length c0_0, .slice A0_1 l0_1.length c0_1, .int .i64 a0_2], .agg #[.slice A1_0 l1_0.length c1_0, .slice A1_1 l1_1.length c1_1]] w fun e w' => e = .returned (.bool r) ∧ Below w.heap.size w w' := by
  have hu35 := Try.underlying35
  have hu37 := Try.underlying37
  have HR0_0 := Aside0.mk hr0_0
  have HC0_0 := Aside0.mk hc0_0
  clear hr0_0 hc0_0
  have HR0_1 := Aside0.mk hr0_1
  have HC0_1 := Aside0.mk hc0_1
  clear hr0_1 hc0_1
  have HR1_0 := Aside0.mk hr1_0
  have HC1_0 := Aside0.mk hc1_0
  clear hr1_0 hc1_0
  have HR1_1 := Aside0.mk hr1_1
  have HC1_1 := Aside0.mk hc1_1
  clear hr1_1 hc1_1
  have HB := Aside0.mk (Below.refl w.heap.size w)
  have H : ((impl_ShowOk.f l0_0 l0_1 a0_2).bind fun t20003 => (if t20003 = true then ((impl_isChoice.f k l0_0 l0_1 a0_2 l1_0 l1_1).bind fun t20004 => (some t20004)) else (some false))) = some r := h
  clear h
  replace H := Option.bind_eq_some_iff.mp H
  obtain ⟨t20003, A30, H⟩ := H
  replace H : (if t20003 = true then ((impl_isChoice.f k l0_0 l0_1 a0_2 l1_0 l1_1).bind fun t20004 => (some t20004)) else (some false)) = some r := H
  have A3 := Aside0.mk A30
  clear A30
  by_cases c4 : t20003 = true
  · subst c4
    have H1 : ((impl_isChoice.f k l0_0 l0_1 a0_2 l1_0 l1_1).bind fun t20004 => (some t20004)) = some r := by rw [if_pos rfl] at H; exact H
    clear H
    have H := H1
    clear H1
    replace H := Option.bind_eq_some_iff.mp H
    obtain ⟨t20004, A50, H⟩ := H
    replace H : (some t20004) = some r := H
    have A5 := Aside0.mk A50
    clear A50
    obtain rfl := Option.some.inj H
    go_enter Try.func20, Try.ntmps20
    go_wp2_with (first | ((with_reducible refine gate_dst (N := 2) rfl ?_); refine box_event ?hg (N := 2) ?hd (cs := #[.slice A0_0 l0_0.length c0_0, .slice A0_1 l0_1.length c0_1, .int .i64 a0_2]) (t := 35) ?hr ?_; (case hd => rfl); (case hg => rfl); (case hr => first | (go_simp; done) | (go_simp; rfl)); intro gb20001 hg w6 hbox hb; have n0_ := Aside0.mk (below_step (by repeat (first | (with_reducible first | exact HB.out | apply below_alloc | apply pw_below_drewN | apply below_drew1) | exact HB.out)) hb); have n1_ := Aside0.mk (hbox); have n2_ := Aside0.mk ((by rw [hg]; exact (below_size (by repeat (first | (with_reducible first | exact HB.out | apply below_alloc | apply pw_below_drewN | apply below_drew1) | exact HB.out))) : w.heap.size ≤ gb20001)); have n3_ := Aside0.mk ((by rw [hg]; exact (below_size (by repeat (first | (with_reducible first | exact HB.out | apply below_alloc | apply pw_below_drewN | apply below_drew1) | exact HB.out))) : w.heap.size ≤ gb20001)); clear HB; have HB := n0_; have BK20001 := n1_; have GW20001 := n2_; have GE20001 := n3_; clear n0_ n1_ n2_ n3_; clear hb hbox hg) | ((with_reducible refine gate_dst (N := 3) rfl ?_); refine box_event ?hg (N := 3) ?hd (cs := #[.slice A1_0 l1_0.length c1_0, .slice A1_1 l1_1.length c1_1]) (t := 37) ?hr ?_; (case hd => rfl); (case hg => rfl); (case hr => first | (go_simp; done) | (go_simp; rfl)); intro gb20002 hg w7 hbox hb; have n0_ := Aside0.mk (blk_below (g := gb20001) (o := .cells #[.slice A0_0 l0_0.length c0_0, .slice A0_1 l0_1.length c0_1, .int .i64 a0_2] 35 (0, 0)) (by (with_reducible repeat (first | refine blk_drewN ?_ _ | refine blk_drew ?_ | refine blk_alloc ?_ _)); exact BK20001.out) hb); have n1_ := Aside0.mk (below_step (by repeat (first | (with_reducible first | exact HB.out | apply below_alloc | apply pw_below_drewN | apply below_drew1 | refine below_set ?_ GE20001.out) | exact HB.out)) hb); have n2_ := Aside0.mk (hbox); have n3_ := Aside0.mk ((by rw [hg]; exact (below_size (by repeat (first | (with_reducible first | exact HB.out | apply below_alloc | apply pw_below_drewN | apply below_drew1 | refine below_set ?_ GE20001.out) | exact HB.out))) : w.heap.size ≤ gb20002)); have n4_ := Aside0.mk ((by rw [hg]; exact (below_size (by repeat (first | (with_reducible first | exact HB.out | apply below_alloc | apply pw_below_drewN | apply below_drew1 | refine below_set ?_ GE20001.out) | exact HB.out))) : w.heap.size ≤ gb20002)); have n5_ := Aside0.mk ((by rw [hg]; exact Nat.ne_of_lt (blk_lt (g := gb20001) (o := .cells #[.slice A0_0 l0_0.length c0_0, .slice A0_1 l0_1.length c0_1, .int .i64 a0_2] 35 (0, 0)) (by (with_reducible repeat (first | refine blk_drewN ?_ _ | refine blk_drew ?_ | refine blk_alloc ?_ _)); exact BK20001.out)) : gb20001 ≠ gb20002)); have n6_ := Aside0.mk ((by rw [hg]; exact Nat.ne_of_gt (blk_lt (g := gb20001) (o := .cells #[.slice A0_0 l0_0.length c0_0, .slice A0_1 l0_1.length c0_1, .int .i64 a0_2] 35 (0, 0)) (by (with_reducible repeat (first | refine blk_drewN ?_ _ | refine blk_drew ?_ | refine blk_alloc ?_ _)); exact BK20001.out)) : gb20002 ≠ gb20001)); clear BK20001; clear HB; have BK20001 := n0_; have HB := n1_; have BK20002 := n2_; have GW20002 := n3_; have GE20002 := n4_; have NB20001_20002 := n5_; have NB20002_20001 := n6_; clear n0_ n1_ n2_ n3_ n4_ n5_ n6_; clear hb hbox hg; have hnb8 := NB20001_20002.out; have hnc8 := NB20002_20001.out; have hcz9_0 : w7.cell? ⟨gb20001, 0, none⟩ = some (.slice A0_0 l0_0.length c0_0) := (blk_cell BK20001.out 0).trans rfl; have hcz9_1 : w7.cell? ⟨gb20001, 1, none⟩ = some (.slice A0_1 l0_1.length c0_1) := (blk_cell BK20001.out 1).trans rfl; have hcz9_2 : w7.cell? ⟨gb20001, 2, none⟩ = some (.int .i64 a0_2) := (blk_cell BK20001.out 2).trans rfl; have hfz9_0 := blk_frozen BK20001.out 0; have hfz9_1 := blk_frozen BK20001.out 1; have hfz9_2 := blk_frozen BK20001.out 2) | ((with_reducible refine gate_callee (f := 72) rfl ?_); refine goesL_ (some 6) rfl rfl Try.func72 (by kernel_rfl) rfl #[.agg #[.slice A0_0 l0_0.length c0_0, .slice A0_1 l0_1.length c0_1, .int .i64 a0_2]] rfl (by (try simp only [List.map_toArray, List.map_cons, List.map_nil]); first | done | rfl | (simp only [List.length_drop, List.length_take]; rfl)) ?_; (with_reducible refine (impl_ShowOk.calls _ _ l0_0 _ _ l0_1 a0_2 true _ ?side1 ?side2 ?side3 ?side4 A3.out).mono ?_); (case side1 => repeat (first | exact (Kd.C_below HR0_0.out HB.out) | (with_reducible refine Kd.C_alloc ?_ _) | (with_reducible refine Kd.C_drewN ?_ _) | (with_reducible refine Kd.C_drew ?_))); (case side2 => exact HC0_0.out); (case side3 => repeat (first | exact (Kd.C_below HR0_1.out HB.out) | (with_reducible refine Kd.C_alloc ?_ _) | (with_reducible refine Kd.C_drewN ?_ _) | (with_reducible refine Kd.C_drew ?_))); (case side4 => exact HC0_1.out); rintro e w10 ⟨rfl, hb⟩; refine ⟨_, rfl, ?_⟩; have n0_ := Aside0.mk (blk_below (g := gb20001) (o := .cells #[.slice A0_0 l0_0.length c0_0, .slice A0_1 l0_1.length c0_1, .int .i64 a0_2] 35 (0, 0)) (by (with_reducible repeat (first | refine blk_drewN ?_ _ | refine blk_drew ?_ | refine blk_alloc ?_ _)); exact BK20001.out) hb); have n1_ := Aside0.mk (blk_below (g := gb20002) (o := .cells #[.slice A1_0 l1_0.length c1_0, .slice A1_1 l1_1.length c1_1] 37 (0, 0)) (by (with_reducible repeat (first | refine blk_drewN ?_ _ | refine blk_drew ?_ | refine blk_alloc ?_ _)); exact BK20002.out) hb); have n2_ := Aside0.mk (below_step (by repeat (first | (with_reducible first | exact HB.out | apply below_alloc | apply pw_below_drewN | apply below_drew1 | refine below_set ?_ GE20001.out | refine below_set ?_ GE20002.out) | exact HB.out)) hb); clear BK20001; clear BK20002; clear HB; have BK20001 := n0_; have BK20002 := n1_; have HB := n2_; clear n0_ n1_ n2_; (try clear hb); (try clear hb2); (try clear hk); (try clear hi); have hcz11_0 : w10.cell? ⟨gb20001, 0, none⟩ = some (.slice A0_0 l0_0.length c0_0) := (blk_cell BK20001.out 0).trans rfl; have hcz11_1 : w10.cell? ⟨gb20001, 1, none⟩ = some (.slice A0_1 l0_1.length c0_1) := (blk_cell BK20001.out 1).trans rfl; have hcz11_2 : w10.cell? ⟨gb20001, 2, none⟩ = some (.int .i64 a0_2) := (blk_cell BK20001.out 2).trans rfl; have hfz11_0 := blk_frozen BK20001.out 0; have hfz11_1 := blk_frozen BK20001.out 1; have hfz11_2 := blk_frozen BK20001.out 2; have hcz12_0 : w10.cell? ⟨gb20002, 0, none⟩ = some (.slice A1_0 l1_0.length c1_0) := (blk_cell BK20002.out 0).trans rfl; have hcz12_1 : w10.cell? ⟨gb20002, 1, none⟩ = some (.slice A1_1 l1_1.length c1_1) := (blk_cell BK20002.out 1).trans rfl; have hfz12_0 := blk_frozen BK20002.out 0; have hfz12_1 := blk_frozen BK20002.out 1) | (go_at_call 73; (with_reducible refine (impl_isChoice.calls k _ _ l0_0 _ _ l0_1 a0_2 _ _ l1_0 _ _ l1_1 t20004 _ ?side1 ?side2 ?side3 ?side4 ?side5 ?side6 ?side7 ?side8 A5.out).mono ?_); (case side1 => repeat (first | exact (Kd.C_below HR0_0.out HB.out) | (with_reducible refine Kd.C_alloc ?_ _) | (with_reducible refine Kd.C_drewN ?_ _) | (with_reducible refine Kd.C_drew ?_))); (case side2 => exact HC0_0.out); (case side3 => repeat (first | exact (Kd.C_below HR0_1.out HB.out) | (with_reducible refine Kd.C_alloc ?_ _) | (with_reducible refine Kd.C_drewN ?_ _) | (with_reducible refine Kd.C_drew ?_))); (case side4 => exact HC0_1.out); (case side5 => repeat (first | exact (Kd.C_below HR1_0.out HB.out) | (with_reducible refine Kd.C_alloc ?_ _) | (with_reducible refine Kd.C_drewN ?_ _) | (with_reducible refine Kd.C_drew ?_))); (case side6 => exact HC1_0.out); (case side7 => repeat (first | exact (Kd.C_below HR1_1.out HB.out) | (with_reducible refine Kd.C_alloc ?_ _) | (with_reducible refine Kd.C_drewN ?_ _) | (with_reducible refine Kd.C_drew ?_))); (case side8 => exact HC1_1.out); rintro e w13 ⟨rfl, hb⟩; have n0_ := Aside0.mk (blk_below (g := gb20001) (o := .cells #[.slice A0_0 l0_0.length c0_0, .slice A0_1 l0_1.length c0_1, .int .i64 a0_2] 35 (0, 0)) (by (with_reducible repeat (first | refine blk_drewN ?_ _ | refine blk_drew ?_ | refine blk_alloc ?_ _)); exact BK20001.out) hb); have n1_ := Aside0.mk (blk_below (g := gb20002) (o := .cells #[.slice A1_0 l1_0.length c1_0, .slice A1_1 l1_1.length c1_1] 37 (0, 0)) (by (with_reducible repeat (first | refine blk_drewN ?_ _ | refine blk_drew ?_ | refine blk_alloc ?_ _)); exact BK20002.out) hb); have n2_ := Aside0.mk (below_step (by repeat (first | (with_reducible first | exact HB.out | apply below_alloc | apply pw_below_drewN | apply below_drew1 | refine below_set ?_ GE20001.out | refine below_set ?_ GE20002.out) | exact HB.out)) hb); clear BK20001; clear BK20002; clear HB; have BK20001 := n0_; have BK20002 := n1_; have HB := n2_; clear n0_ n1_ n2_; (try clear hb); (try clear hb2); (try clear hk); (try clear hi)))
    go_ret
    exact ⟨by first | rfl | (simp [errW_none, errW_some] <;> rfl) | (simp [*, errW_none, errW_some] <;> rfl), by repeat (first | (with_reducible first | exact HB.out | apply below_alloc | apply pw_below_drewN | apply below_drew1 | refine below_set ?_ GE20001.out | refine below_set ?_ GE20002.out) | exact HB.out)⟩
  · replace c4 := Bool.eq_false_iff.mpr c4
    subst c4
    have H1 : (some false) = some r := by rw [if_neg (show ¬ (false = true) by decide)] at H; exact H
    clear H
    have H := H1
    clear H1
    obtain rfl := Option.some.inj H
    go_enter Try.func20, Try.ntmps20
    go_wp2_with (first | ((with_reducible refine gate_dst (N := 2) rfl ?_); refine box_event ?hg (N := 2) ?hd (cs := #[.slice A0_0 l0_0.length c0_0, .slice A0_1 l0_1.length c0_1, .int .i64 a0_2]) (t := 35) ?hr ?_; (case hd => rfl); (case hg => rfl); (case hr => first | (go_simp; done) | (go_simp; rfl)); intro gb20001 hg w14 hbox hb; have n0_ := Aside0.mk (below_step (by repeat (first | (with_reducible first | exact HB.out | apply below_alloc | apply pw_below_drewN | apply below_drew1) | exact HB.out)) hb); have n1_ := Aside0.mk (hbox); have n2_ := Aside0.mk ((by rw [hg]; exact (below_size (by repeat (first | (with_reducible first | exact HB.out | apply below_alloc | apply pw_below_drewN | apply below_drew1) | exact HB.out))) : w.heap.size ≤ gb20001)); have n3_ := Aside0.mk ((by rw [hg]; exact (below_size (by repeat (first | (with_reducible first | exact HB.out | apply below_alloc | apply pw_below_drewN | apply below_drew1) | exact HB.out))) : w.heap.size ≤ gb20001)); clear HB; have HB := n0_; have BK20001 := n1_; have GW20001 := n2_; have GE20001 := n3_; clear n0_ n1_ n2_ n3_; clear hb hbox hg) | ((with_reducible refine gate_dst (N := 3) rfl ?_); refine box_event ?hg (N := 3) ?hd (cs := #[.slice A1_0 l1_0.length c1_0, .slice A1_1 l1_1.length c1_1]) (t := 37) ?hr ?_; (case hd => rfl); (case hg => rfl); (case hr => first | (go_simp; done) | (go_simp; rfl)); intro gb20002 hg w15 hbox hb; have n0_ := Aside0.mk (blk_below (g := gb20001) (o := .cells #[.slice A0_0 l0_0.length c0_0, .slice A0_1 l0_1.length c0_1, .int .i64 a0_2] 35 (0, 0)) (by (with_reducible repeat (first | refine blk_drewN ?_ _ | refine blk_drew ?_ | refine blk_alloc ?_ _)); exact BK20001.out) hb); have n1_ := Aside0.mk (below_step (by repeat (first | (with_reducible first | exact HB.out | apply below_alloc | apply pw_below_drewN | apply below_drew1 | refine below_set ?_ GE20001.out) | exact HB.out)) hb); have n2_ := Aside0.mk (hbox); have n3_ := Aside0.mk ((by rw [hg]; exact (below_size (by repeat (first | (with_reducible first | exact HB.out | apply below_alloc | apply pw_below_drewN | apply below_drew1 | refine below_set ?_ GE20001.out) | exact HB.out))) : w.heap.size ≤ gb20002)); have n4_ := Aside0.mk ((by rw [hg]; exact (below_size (by repeat (first | (with_reducible first | exact HB.out | apply below_alloc | apply pw_below_drewN | apply below_drew1 | refine below_set ?_ GE20001.out) | exact HB.out))) : w.heap.size ≤ gb20002)); have n5_ := Aside0.mk ((by rw [hg]; exact Nat.ne_of_lt (blk_lt (g := gb20001) (o := .cells #[.slice A0_0 l0_0.length c0_0, .slice A0_1 l0_1.length c0_1, .int .i64 a0_2] 35 (0, 0)) (by (with_reducible repeat (first | refine blk_drewN ?_ _ | refine blk_drew ?_ | refine blk_alloc ?_ _)); exact BK20001.out)) : gb20001 ≠ gb20002)); have n6_ := Aside0.mk ((by rw [hg]; exact Nat.ne_of_gt (blk_lt (g := gb20001) (o := .cells #[.slice A0_0 l0_0.length c0_0, .slice A0_1 l0_1.length c0_1, .int .i64 a0_2] 35 (0, 0)) (by (with_reducible repeat (first | refine blk_drewN ?_ _ | refine blk_drew ?_ | refine blk_alloc ?_ _)); exact BK20001.out)) : gb20002 ≠ gb20001)); clear BK20001; clear HB; have BK20001 := n0_; have HB := n1_; have BK20002 := n2_; have GW20002 := n3_; have GE20002 := n4_; have NB20001_20002 := n5_; have NB20002_20001 := n6_; clear n0_ n1_ n2_ n3_ n4_ n5_ n6_; clear hb hbox hg; have hnb16 := NB20001_20002.out; have hnc16 := NB20002_20001.out; have hcz17_0 : w15.cell? ⟨gb20001, 0, none⟩ = some (.slice A0_0 l0_0.length c0_0) := (blk_cell BK20001.out 0).trans rfl; have hcz17_1 : w15.cell? ⟨gb20001, 1, none⟩ = some (.slice A0_1 l0_1.length c0_1) := (blk_cell BK20001.out 1).trans rfl; have hcz17_2 : w15.cell? ⟨gb20001, 2, none⟩ = some (.int .i64 a0_2) := (blk_cell BK20001.out 2).trans rfl; have hfz17_0 := blk_frozen BK20001.out 0; have hfz17_1 := blk_frozen BK20001.out 1; have hfz17_2 := blk_frozen BK20001.out 2) | ((with_reducible refine gate_callee (f := 72) rfl ?_); refine goesL_ (some 6) rfl rfl Try.func72 (by kernel_rfl) rfl #[.agg #[.slice A0_0 l0_0.length c0_0, .slice A0_1 l0_1.length c0_1, .int .i64 a0_2]] rfl (by (try simp only [List.map_toArray, List.map_cons, List.map_nil]); first | done | rfl | (simp only [List.length_drop, List.length_take]; rfl)) ?_; (with_reducible refine (impl_ShowOk.calls _ _ l0_0 _ _ l0_1 a0_2 false _ ?side1 ?side2 ?side3 ?side4 A3.out).mono ?_); (case side1 => repeat (first | exact (Kd.C_below HR0_0.out HB.out) | (with_reducible refine Kd.C_alloc ?_ _) | (with_reducible refine Kd.C_drewN ?_ _) | (with_reducible refine Kd.C_drew ?_))); (case side2 => exact HC0_0.out); (case side3 => repeat (first | exact (Kd.C_below HR0_1.out HB.out) | (with_reducible refine Kd.C_alloc ?_ _) | (with_reducible refine Kd.C_drewN ?_ _) | (with_reducible refine Kd.C_drew ?_))); (case side4 => exact HC0_1.out); rintro e w18 ⟨rfl, hb⟩; refine ⟨_, rfl, ?_⟩; have n0_ := Aside0.mk (blk_below (g := gb20001) (o := .cells #[.slice A0_0 l0_0.length c0_0, .slice A0_1 l0_1.length c0_1, .int .i64 a0_2] 35 (0, 0)) (by (with_reducible repeat (first | refine blk_drewN ?_ _ | refine blk_drew ?_ | refine blk_alloc ?_ _)); exact BK20001.out) hb); have n1_ := Aside0.mk (blk_below (g := gb20002) (o := .cells #[.slice A1_0 l1_0.length c1_0, .slice A1_1 l1_1.length c1_1] 37 (0, 0)) (by (with_reducible repeat (first | refine blk_drewN ?_ _ | refine blk_drew ?_ | refine blk_alloc ?_ _)); exact BK20002.out) hb); have n2_ := Aside0.mk (below_step (by repeat (first | (with_reducible first | exact HB.out | apply below_alloc | apply pw_below_drewN | apply below_drew1 | refine below_set ?_ GE20001.out | refine below_set ?_ GE20002.out) | exact HB.out)) hb); clear BK20001; clear BK20002; clear HB; have BK20001 := n0_; have BK20002 := n1_; have HB := n2_; clear n0_ n1_ n2_; (try clear hb); (try clear hb2); (try clear hk); (try clear hi)))
    go_ret
    exact ⟨by first | rfl | (simp [errW_none, errW_some] <;> rfl) | (simp [*, errW_none, errW_some] <;> rfl), by repeat (first | (with_reducible first | exact HB.out | apply below_alloc | apply pw_below_drewN | apply below_drew1 | refine below_set ?_ GE20001.out | refine below_set ?_ GE20002.out) | exact HB.out)⟩

end Go.Proofs.Ytodfnelilhjoeaa.Pr

namespace Go.Proofs.Ytodfnelilhjoeaa.Pr
open Go.RowKit Go.Proofs.YtodfnelilhjoeaaW.PrintWords Go.Proofs.YtodfnelilhjoeaaW.PrintLast Go.Proofs.YtodfnelilhjoeaaW.PrintMore
attribute [local go_sem] max2_int min2_int max_two min_two max_three min_three max_four min_four
set_option linter.unusedVariables false
set_option linter.unusedSimpArgs false

-- IMPORT Derived.Test.YtodfnelilhjoeaaQNice
-- IMPORT Derived.Test.YtodfnelilhjoeaaUIntS
-- IMPORT Derived.Deep.LoopGhost
-- IMPORT Derived.Deep.RegionHeld3
open Go.Proofs.Ytodfnelilhjoeaa.Ni
set_option maxHeartbeats 4000000 in
set_option maxRecDepth 100000 in
theorem laws_eqNode.same (a0 : ByteArray) (A1 : Option Addr) (c1 : Nat) (A1' : Option Addr) (c1' : Nat) (l1 : List Int) (a2 : Int) (w : World) (hr1 : Kd.C (Kd.int .i64) w A1 l1.length l1) (hc1 : l1.length ≤ c1) (hr1' : Kd.C (Kd.int .i64) w A1' l1.length l1) (hc1' : l1.length ≤ c1') :
    Calls Try.prog 127 #[.agg #[.string a0, .slice A1 l1.length c1, .int .i64 a2], .agg #[.string a0, .slice A1' l1.length c1', .int .i64 a2]] w fun e w' => e = .returned (.bool true) ∧ Below w.heap.size w w' := by
  have hu := Try.underlying116
  have H1 := Aside0.mk fun (W : World) (hb : Below w.heap.size w W) => (laws_eqIntS.calls (2 ^ 64) A1 c1 l1 A1' c1' l1 true W (Kd.C_below hr1 hb) hc1 (Kd.C_below hr1' hb) hc1' (eqIntS_refl l1 hr1.2.1 (2 ^ 64) (Nat.le_refl _))).mono fun e w' ⟨he, hd⟩ => (And.intro he hd.below : e = Ending.returned (.bool true) ∧ Below W.heap.size W w')
  clear hr1 hc1 hr1' hc1'
  have HB0 := Aside0.mk (below_alloc (below_alloc (Below.refl w.heap.size w) (.cells #[.string a0, .slice A1 l1.length c1, .int .i64 a2] 116)) (.cells #[.string a0, .slice A1' l1.length c1', .int .i64 a2] 116))
  go_enter Try.func127, Try.ntmps127
  go_wp2_with fail
  refine (H1.out _ HB0.out).mono ?_
  rintro e w1 ⟨rfl, hb⟩
  have HB1 := Aside0.mk (HB0.out.trans (hb.mono HB0.out.size))
  have s2 : w1.cell? ⟨w.heap.size, 2, none⟩ = some (.int .i64 a2) := kcell hb (by go_simp)
  have t2 : w1.cell? ⟨w.heap.size + 1, 2, none⟩ = some (.int .i64 a2) := kcell hb (by go_simp)
  clear hb
  go_wp2
  go_ret
  exact ⟨rfl, HB1.out⟩

end Go.Proofs.Ytodfnelilhjoeaa.Pr

namespace Go.Proofs.Ytodfnelilhjoeaa.Pr
open Go.RowKit Go.Proofs.YtodfnelilhjoeaaW.PrintWords Go.Proofs.YtodfnelilhjoeaaW.PrintLast Go.Proofs.YtodfnelilhjoeaaW.PrintMore
attribute [local go_sem] max2_int min2_int max_two min_two max_three min_three max_four min_four
set_option linter.unusedVariables false
set_option linter.unusedSimpArgs false

-- IMPORT Derived.Test.YtodfnelilhjoeaaQNice
-- IMPORT Derived.Test.YtodfnelilhjoeaaUIntS
-- IMPORT Derived.Deep.LoopGhost
-- IMPORT Derived.Deep.RegionHeld3
open Go.Proofs.Ytodfnelilhjoeaa.Ni
set_option maxHeartbeats 4000000 in
set_option maxRecDepth 100000 in
theorem laws_eqNodeS.same (A0 : Option Addr) (c0 : Nat) (A0' : Option Addr) (c0' : Nat) (l0 : List (S116)) (w : World) (hr0 : Kd.C k116 w A0 l0.length l0) (hc0 : l0.length ≤ c0) (hr0' : Kd.C k116 w A0' l0.length l0) (hc0' : l0.length ≤ c0') :
    Calls Try.prog 74 #[.slice A0 l0.length c0, .slice A0' l0.length c0'] w fun e w' => e = .returned (.bool true) ∧ Below w.heap.size w w' := by
  have hL : l0.length ≤ 9223372036854775807 := hr0.2.1
  have HR := Aside0.mk hr0
  have HS := Aside0.mk hr0'
  clear hr0 hr0'
  go_enter Try.func74, Try.ntmps74
  go_wp2
  go_loopg [5] l0.length (fun gg s5 wr => ∃ kk : Nat, Aside0 (kk ≤ l0.length) ∧ Aside0 (l0.length - kk ≤ gg) ∧ s5 = .int .i64 kk ∧ Aside0 (Below w.heap.size w wr))
  case atStart => exact ⟨0, ⟨Nat.zero_le _⟩, ⟨by omega⟩, rfl, ⟨Below.refl _ _⟩⟩
  case round =>
    obtain ⟨kk, HK, HG, rfl, HBr⟩ := hrel
    by_cases hlt : kk < l0.length
    · have hltz : (kk : Int) < (l0.length : Int) := by omega
      obtain ⟨adx, A1x, c1x, ex, hx0, hx1, hx2, l1x, g1x⟩ := at_T116 HR.out (kk : Int) (by omega) hltz
      obtain ⟨ady, A1y, c1y, ey, hy0, hy1, hy2, l1y, g1y⟩ := at_T116 HS.out (kk : Int) (by omega) hltz
      cases ex
      cases ey
      rw [Int.toNat_natCast] at hx0 hx1 hx2 hy0 hy1 hy2
      generalize rd_T116 l0 (kk : Int) = y at hx0 hx1 hx2 l1x g1x hy0 hy1 hy2 l1y g1y
      replace hx0 := kcell HBr.out hx0
      replace hx1 := kcell HBr.out hx1
      replace hx2 := kcell HBr.out hx2
      replace hy0 := kcell HBr.out hy0
      replace hy1 := kcell HBr.out hy1
      replace hy2 := kcell HBr.out hy2
      have hltx := World.block_lt_of_cell? wr _ hx0
      have hlty := World.block_lt_of_cell? wr _ hy0
      have G1x := Aside0.mk g1x
      have G1y := Aside0.mk g1y
      clear g1x g1y
      go_wp2_with fail
      go_region_held3 (fun w' => Below wr.heap.size wr w' ∧ w'.cell? (adx.add (kk * 3)) = some (.string y.f0) ∧ w'.cell? ⟨(adx.add (kk * 3)).block, (adx.add (kk * 3)).off + 1, none⟩ = some (.slice A1x y.f1.length c1x) ∧ w'.cell? ⟨(adx.add (kk * 3)).block, (adx.add (kk * 3)).off + 2, none⟩ = some (.int .i64 y.f2) ∧ w'.cell? (ady.add (kk * 3)) = some (.string y.f0) ∧ w'.cell? ⟨(ady.add (kk * 3)).block, (ady.add (kk * 3)).off + 1, none⟩ = some (.slice A1y y.f1.length c1y) ∧ w'.cell? ⟨(ady.add (kk * 3)).block, (ady.add (kk * 3)).off + 2, none⟩ = some (.int .i64 y.f2))
        (first | (refine ⟨by repeat (first | (with_reducible first | exact Below.refl _ _ | apply below_alloc | apply pw_below_drewN | apply below_drew1 | exact (‹Below wr.heap.size wr _ ∧ _› : Below wr.heap.size wr _ ∧ _).1) | exact Below.refl _ _), ?_⟩; go_simp; done) | (have HQ_ := below_step (‹Below wr.heap.size wr _ ∧ _› : Below wr.heap.size wr _ ∧ _).1 hb; exact ⟨HQ_, kcell HQ_ hx0, kcell HQ_ hx1, kcell HQ_ hx2, kcell HQ_ hy0, kcell HQ_ hy1, kcell HQ_ hy2⟩))
        (first | (go_at_call 127; (refine (laws_eqNode.same y.f0 A1x c1x A1y c1y y.f1 y.f2 _ ?p0 l1x ?p1 l1y).mono ?_); (case p0 => exact (Kd.C_below (Kd.C_below G1x.out HBr.out) (‹Below wr.heap.size wr _ ∧ _› : Below wr.heap.size wr _ ∧ _).1)); (case p1 => exact (Kd.C_below (Kd.C_below G1y.out HBr.out) (‹Below wr.heap.size wr _ ∧ _› : Below wr.heap.size wr _ ∧ _).1)); rintro e w3 ⟨rfl, hb⟩))
      have HB3 := Aside0.mk (‹Below wr.heap.size wr w3 ∧ _› : Below wr.heap.size wr w3 ∧ _).1
      go_wp2
      go_roundg (l0.length - (kk + 1))
      case measure => have := HG.out; omega
      case rel => exact ⟨kk + 1, ⟨by omega⟩, ⟨by omega⟩, by go_num, ⟨HBr.out.trans (HB3.out.mono HBr.out.size)⟩⟩
    · have hltz : ¬ (kk : Int) < (l0.length : Int) := by omega
      have : kk = l0.length := by have := HK.out; omega
      subst this
      go_wp2
      go_ret
      exact ⟨rfl, HBr.out⟩

end Go.Proofs.Ytodfnelilhjoeaa.Pr

namespace Go.Proofs.Ytodfnelilhjoeaa.Pr
open Go.RowKit Go.Proofs.YtodfnelilhjoeaaW.PrintWords Go.Proofs.YtodfnelilhjoeaaW.PrintLast Go.Proofs.YtodfnelilhjoeaaW.PrintMore
attribute [local go_sem] max2_int min2_int max_two min_two max_three min_three max_four min_four
set_option linter.unusedVariables false
set_option linter.unusedSimpArgs false

-- IMPORT Derived.Test.YtodfnelilhjoeaaQNice
-- IMPORT Derived.Test.YtodfnelilhjoeaaUIntS
-- IMPORT Derived.Deep.LoopGhost
-- IMPORT Derived.Deep.RegionHeld3
open Go.Proofs.Ytodfnelilhjoeaa.Ni
set_option maxHeartbeats 4000000 in
set_option maxRecDepth 100000 in
theorem laws_eqTie.same (a0 : Int) (a1 : Int) (a2 : Int) (a3 : Int) (a4 : Bool) (w : World)  :
    Calls Try.prog 128 #[.agg #[.int .i64 a0, .int .i64 a1, .int .i64 a2, .int .i64 a3, .bool a4], .agg #[.int .i64 a0, .int .i64 a1, .int .i64 a2, .int .i64 a3, .bool a4]] w fun e w' => e = .returned (.bool true) ∧ Below w.heap.size w w' := by
  have hu := Try.underlying90
  have HB0 := Aside0.mk (below_alloc (below_alloc (Below.refl w.heap.size w) (.cells #[.int .i64 a0, .int .i64 a1, .int .i64 a2, .int .i64 a3, .bool a4] 90)) (.cells #[.int .i64 a0, .int .i64 a1, .int .i64 a2, .int .i64 a3, .bool a4] 90))
  go_enter Try.func128, Try.ntmps128
  go_wp2
  go_ret
  exact ⟨rfl, HB0.out⟩

end Go.Proofs.Ytodfnelilhjoeaa.Pr

namespace Go.Proofs.Ytodfnelilhjoeaa.Pr
open Go.RowKit Go.Proofs.YtodfnelilhjoeaaW.PrintWords Go.Proofs.YtodfnelilhjoeaaW.PrintLast Go.Proofs.YtodfnelilhjoeaaW.PrintMore
attribute [local go_sem] max2_int min2_int max_two min_two max_three min_three max_four min_four
set_option linter.unusedVariables false
set_option linter.unusedSimpArgs false

-- IMPORT Derived.Test.YtodfnelilhjoeaaQNice
-- IMPORT Derived.Test.YtodfnelilhjoeaaUIntS
-- IMPORT Derived.Deep.LoopGhost
-- IMPORT Derived.Deep.RegionHeld3
open Go.Proofs.Ytodfnelilhjoeaa.Ni
set_option maxHeartbeats 4000000 in
set_option maxRecDepth 100000 in
theorem laws_eqTieS.same (A0 : Option Addr) (c0 : Nat) (A0' : Option Addr) (c0' : Nat) (l0 : List (S90)) (w : World) (hr0 : Kd.C k90 w A0 l0.length l0) (hc0 : l0.length ≤ c0) (hr0' : Kd.C k90 w A0' l0.length l0) (hc0' : l0.length ≤ c0') :
    Calls Try.prog 75 #[.slice A0 l0.length c0, .slice A0' l0.length c0'] w fun e w' => e = .returned (.bool true) ∧ Below w.heap.size w w' := by
  have hL : l0.length ≤ 9223372036854775807 := hr0.2.1
  have HR := Aside0.mk hr0
  have HS := Aside0.mk hr0'
  clear hr0 hr0'
  go_enter Try.func75, Try.ntmps75
  go_wp2
  go_loopg [5] l0.length (fun gg s5 wr => ∃ kk : Nat, Aside0 (kk ≤ l0.length) ∧ Aside0 (l0.length - kk ≤ gg) ∧ s5 = .int .i64 kk ∧ Aside0 (Below w.heap.size w wr))
  case atStart => exact ⟨0, ⟨Nat.zero_le _⟩, ⟨by omega⟩, rfl, ⟨Below.refl _ _⟩⟩
  case round =>
    obtain ⟨kk, HK, HG, rfl, HBr⟩ := hrel
    by_cases hlt : kk < l0.length
    · have hltz : (kk : Int) < (l0.length : Int) := by omega
      obtain ⟨adx, ex, hx0, hx1, hx2, hx3, hx4⟩ := at_T90 HR.out (kk : Int) (by omega) hltz
      obtain ⟨ady, ey, hy0, hy1, hy2, hy3, hy4⟩ := at_T90 HS.out (kk : Int) (by omega) hltz
      cases ex
      cases ey
      rw [Int.toNat_natCast] at hx0 hx1 hx2 hx3 hx4 hy0 hy1 hy2 hy3 hy4
      generalize rd_T90 l0 (kk : Int) = y at hx0 hx1 hx2 hx3 hx4 hy0 hy1 hy2 hy3 hy4
      replace hx0 := kcell HBr.out hx0
      replace hx1 := kcell HBr.out hx1
      replace hx2 := kcell HBr.out hx2
      replace hx3 := kcell HBr.out hx3
      replace hx4 := kcell HBr.out hx4
      replace hy0 := kcell HBr.out hy0
      replace hy1 := kcell HBr.out hy1
      replace hy2 := kcell HBr.out hy2
      replace hy3 := kcell HBr.out hy3
      replace hy4 := kcell HBr.out hy4
      have hltx := World.block_lt_of_cell? wr _ hx0
      have hlty := World.block_lt_of_cell? wr _ hy0
      go_wp2_with fail
      go_region_held3 (fun w' => Below wr.heap.size wr w' ∧ w'.cell? (adx.add (kk * 5)) = some (.int .i64 y.f0) ∧ w'.cell? ⟨(adx.add (kk * 5)).block, (adx.add (kk * 5)).off + 1, none⟩ = some (.int .i64 y.f1) ∧ w'.cell? ⟨(adx.add (kk * 5)).block, (adx.add (kk * 5)).off + 2, none⟩ = some (.int .i64 y.f2) ∧ w'.cell? ⟨(adx.add (kk * 5)).block, (adx.add (kk * 5)).off + 3, none⟩ = some (.int .i64 y.f3) ∧ w'.cell? ⟨(adx.add (kk * 5)).block, (adx.add (kk * 5)).off + 4, none⟩ = some (.bool y.f4) ∧ w'.cell? (ady.add (kk * 5)) = some (.int .i64 y.f0) ∧ w'.cell? ⟨(ady.add (kk * 5)).block, (ady.add (kk * 5)).off + 1, none⟩ = some (.int .i64 y.f1) ∧ w'.cell? ⟨(ady.add (kk * 5)).block, (ady.add (kk * 5)).off + 2, none⟩ = some (.int .i64 y.f2) ∧ w'.cell? ⟨(ady.add (kk * 5)).block, (ady.add (kk * 5)).off + 3, none⟩ = some (.int .i64 y.f3) ∧ w'.cell? ⟨(ady.add (kk * 5)).block, (ady.add (kk * 5)).off + 4, none⟩ = some (.bool y.f4))
        (first | (refine ⟨by repeat (first | (with_reducible first | exact Below.refl _ _ | apply below_alloc | apply pw_below_drewN | apply below_drew1 | exact (‹Below wr.heap.size wr _ ∧ _› : Below wr.heap.size wr _ ∧ _).1) | exact Below.refl _ _), ?_⟩; go_simp; done) | (have HQ_ := below_step (‹Below wr.heap.size wr _ ∧ _› : Below wr.heap.size wr _ ∧ _).1 hb; exact ⟨HQ_, kcell HQ_ hx0, kcell HQ_ hx1, kcell HQ_ hx2, kcell HQ_ hx3, kcell HQ_ hx4, kcell HQ_ hy0, kcell HQ_ hy1, kcell HQ_ hy2, kcell HQ_ hy3, kcell HQ_ hy4⟩))
        (first | (go_at_call 128; (refine (laws_eqTie.same y.f0 y.f1 y.f2 y.f3 y.f4 _ ).mono ?_); rintro e w3 ⟨rfl, hb⟩))
      have HB3 := Aside0.mk (‹Below wr.heap.size wr w3 ∧ _› : Below wr.heap.size wr w3 ∧ _).1
      go_wp2
      go_roundg (l0.length - (kk + 1))
      case measure => have := HG.out; omega
      case rel => exact ⟨kk + 1, ⟨by omega⟩, ⟨by omega⟩, by go_num, ⟨HBr.out.trans (HB3.out.mono HBr.out.size)⟩⟩
    · have hltz : ¬ (kk : Int) < (l0.length : Int) := by omega
      have : kk = l0.length := by have := HK.out; omega
      subst this
      go_wp2
      go_ret
      exact ⟨rfl, HBr.out⟩

end Go.Proofs.Ytodfnelilhjoeaa.Pr

namespace Go.Proofs.Ytodfnelilhjoeaa.Pr
open Go.RowKit Go.Proofs.YtodfnelilhjoeaaW.PrintWords Go.Proofs.YtodfnelilhjoeaaW.PrintLast Go.Proofs.YtodfnelilhjoeaaW.PrintMore
attribute [local go_sem] max2_int min2_int max_two min_two max_three min_three max_four min_four
set_option linter.unusedVariables false
set_option linter.unusedSimpArgs false

-- IMPORT Derived.Test.YtodfnelilhjoeaaQNice
-- IMPORT Derived.Test.YtodfnelilhjoeaaUIntS
-- IMPORT Derived.Deep.LoopGhost
-- IMPORT Derived.Deep.RegionHeld3
open Go.Proofs.Ytodfnelilhjoeaa.Ni
set_option maxHeartbeats 4000000 in
set_option maxRecDepth 100000 in
theorem laws_eqShow.same (A0 : Option Addr) (c0 : Nat) (A0' : Option Addr) (c0' : Nat) (l0 : List (S116)) (A1 : Option Addr) (c1 : Nat) (A1' : Option Addr) (c1' : Nat) (l1 : List (S90)) (a2 : Int) (w : World) (hr0 : Kd.C k116 w A0 l0.length l0) (hc0 : l0.length ≤ c0) (hr0' : Kd.C k116 w A0' l0.length l0) (hc0' : l0.length ≤ c0') (hr1 : Kd.C k90 w A1 l1.length l1) (hc1 : l1.length ≤ c1) (hr1' : Kd.C k90 w A1' l1.length l1) (hc1' : l1.length ≤ c1') :
    Calls Try.prog 21 #[.agg #[.slice A0 l0.length c0, .slice A1 l1.length c1, .int .i64 a2], .agg #[.slice A0' l0.length c0', .slice A1' l1.length c1', .int .i64 a2]] w fun e w' => e = .returned (.bool true) ∧ Below w.heap.size w w' := by
  have hu := Try.underlying35
  have H0 := Aside0.mk fun (W : World) (hb : Below w.heap.size w W) => laws_eqNodeS.same A0 c0 A0' c0' l0 W (Kd.C_below hr0 hb) hc0 (Kd.C_below hr0' hb) hc0'
  have H1 := Aside0.mk fun (W : World) (hb : Below w.heap.size w W) => laws_eqTieS.same A1 c1 A1' c1' l1 W (Kd.C_below hr1 hb) hc1 (Kd.C_below hr1' hb) hc1'
  clear hr0 hc0 hr0' hc0' hr1 hc1 hr1' hc1'
  have HB0 := Aside0.mk (below_alloc (below_alloc (Below.refl w.heap.size w) (.cells #[.slice A0 l0.length c0, .slice A1 l1.length c1, .int .i64 a2] 35)) (.cells #[.slice A0' l0.length c0', .slice A1' l1.length c1', .int .i64 a2] 35))
  go_enter Try.func21, Try.ntmps21
  go_wp2_with fail
  refine (H0.out _ HB0.out).mono ?_
  rintro e w1 ⟨rfl, hb⟩
  have HB1 := Aside0.mk (HB0.out.trans (hb.mono HB0.out.size))
  have s1 : w1.cell? ⟨w.heap.size, 1, none⟩ = some (.slice A1 l1.length c1) := kcell hb (by go_simp)
  have t1 : w1.cell? ⟨w.heap.size + 1, 1, none⟩ = some (.slice A1' l1.length c1') := kcell hb (by go_simp)
  have s2 : w1.cell? ⟨w.heap.size, 2, none⟩ = some (.int .i64 a2) := kcell hb (by go_simp)
  have t2 : w1.cell? ⟨w.heap.size + 1, 2, none⟩ = some (.int .i64 a2) := kcell hb (by go_simp)
  clear hb
  go_wp2_with fail
  refine (H1.out _ HB1.out).mono ?_
  rintro e w2 ⟨rfl, hb⟩
  have HB2 := Aside0.mk (HB1.out.trans (hb.mono HB1.out.size))
  replace s2 := kcell hb s2
  replace t2 := kcell hb t2
  clear hb s1 t1
  go_wp2
  go_ret
  exact ⟨rfl, HB2.out⟩

end Go.Proofs.Ytodfnelilhjoeaa.Pr

namespace Go.Proofs.Ytodfnelilhjoeaa.Pr
open Go.RowKit Go.Proofs.YtodfnelilhjoeaaW.PrintWords Go.Proofs.YtodfnelilhjoeaaW.PrintLast Go.Proofs.YtodfnelilhjoeaaW.PrintMore
attribute [local go_sem] max2_int min2_int max_two min_two max_three min_three max_four min_four
set_option linter.unusedVariables false
set_option linter.unusedSimpArgs false

-- IMPORT Derived.Test.YtodfnelilhjoeaaQNice
-- IMPORT Derived.Test.YtodfnelilhjoeaaUIntS
-- IMPORT Derived.Deep.LoopGhost
-- IMPORT Derived.Deep.RegionHeld3
open Go.Proofs.Ytodfnelilhjoeaa.Ni
set_option maxHeartbeats 4000000 in
set_option maxRecDepth 100000 in
theorem laws_eqChoice.same (A0 : Option Addr) (c0 : Nat) (A0' : Option Addr) (c0' : Nat) (l0 : List Int) (A1 : Option Addr) (c1 : Nat) (A1' : Option Addr) (c1' : Nat) (l1 : List Int) (w : World) (hr0 : Kd.C (Kd.int .i64) w A0 l0.length l0) (hc0 : l0.length ≤ c0) (hr0' : Kd.C (Kd.int .i64) w A0' l0.length l0) (hc0' : l0.length ≤ c0') (hr1 : Kd.C (Kd.int .i64) w A1 l1.length l1) (hc1 : l1.length ≤ c1) (hr1' : Kd.C (Kd.int .i64) w A1' l1.length l1) (hc1' : l1.length ≤ c1') :
    Calls Try.prog 22 #[.agg #[.slice A0 l0.length c0, .slice A1 l1.length c1], .agg #[.slice A0' l0.length c0', .slice A1' l1.length c1']] w fun e w' => e = .returned (.bool true) ∧ Below w.heap.size w w' := by
  have hu := Try.underlying37
  have H0 := Aside0.mk fun (W : World) (hb : Below w.heap.size w W) => (laws_eqIntS.calls (2 ^ 64) A0 c0 l0 A0' c0' l0 true W (Kd.C_below hr0 hb) hc0 (Kd.C_below hr0' hb) hc0' (eqIntS_refl l0 hr0.2.1 (2 ^ 64) (Nat.le_refl _))).mono fun e w' ⟨he, hd⟩ => (And.intro he hd.below : e = Ending.returned (.bool true) ∧ Below W.heap.size W w')
  have H1 := Aside0.mk fun (W : World) (hb : Below w.heap.size w W) => (laws_eqIntS.calls (2 ^ 64) A1 c1 l1 A1' c1' l1 true W (Kd.C_below hr1 hb) hc1 (Kd.C_below hr1' hb) hc1' (eqIntS_refl l1 hr1.2.1 (2 ^ 64) (Nat.le_refl _))).mono fun e w' ⟨he, hd⟩ => (And.intro he hd.below : e = Ending.returned (.bool true) ∧ Below W.heap.size W w')
  clear hr0 hc0 hr0' hc0' hr1 hc1 hr1' hc1'
  have HB0 := Aside0.mk (below_alloc (below_alloc (Below.refl w.heap.size w) (.cells #[.slice A0 l0.length c0, .slice A1 l1.length c1] 37)) (.cells #[.slice A0' l0.length c0', .slice A1' l1.length c1'] 37))
  go_enter Try.func22, Try.ntmps22
  go_wp2_with fail
  refine (H0.out _ HB0.out).mono ?_
  rintro e w1 ⟨rfl, hb⟩
  have HB1 := Aside0.mk (HB0.out.trans (hb.mono HB0.out.size))
  have s1 : w1.cell? ⟨w.heap.size, 1, none⟩ = some (.slice A1 l1.length c1) := kcell hb (by go_simp)
  have t1 : w1.cell? ⟨w.heap.size + 1, 1, none⟩ = some (.slice A1' l1.length c1') := kcell hb (by go_simp)
  clear hb
  go_wp2_with fail
  refine (H1.out _ HB1.out).mono ?_
  rintro e w2 ⟨rfl, hb⟩
  have HB2 := Aside0.mk (HB1.out.trans (hb.mono HB1.out.size))
  clear hb s1 t1
  go_wp2
  go_ret
  exact ⟨rfl, HB2.out⟩

end Go.Proofs.Ytodfnelilhjoeaa.Pr

namespace Go.Proofs.Ytodfnelilhjoeaa.Pr
open Go.RowKit Go.Proofs.YtodfnelilhjoeaaW.PrintWords Go.Proofs.Ytodfnelilhjoeaa.Ni
theorem szIntS_f (l : List Int) (hl : l.length ≤ 9223372036854775807) (a : Int) (h0 : 0 ≤ a) (h1 : a ≤ 1048576) : laws_szIntS.f l a = some (if a - l.length < 0 then -1 else a - l.length) := by
  unfold laws_szIntS.f
  rw [wrap_id (by omega) (by omega)]
  split <;> rfl
theorem szNode_f (s : ByteArray) (l : List Int) (n : Int) (hs : s.size ≤ 9223372036854775807) (hl : l.length ≤ 9223372036854775807) (a : Int) (h0 : 0 ≤ a) (h1 : a ≤ 1048576) :
    ∃ r, laws_szNode.f s l n a = some r ∧ (r < 0 ∨ (0 ≤ r ∧ r ≤ a ∧ s.size ≤ 1048576 ∧ l.length ≤ 1048576)) := by
  unfold laws_szNode.f
  rw [wrap_id (by omega) (by omega)]
  by_cases h : a - (s.size : Int) < 0
  · rw [if_pos h]; exact ⟨_, rfl, .inl (by omega)⟩
  · rw [if_neg h, szIntS_f l hl _ (by omega) (by omega), Option.bind_some]
    by_cases h2 : a - (s.size : Int) - l.length < 0
    · rw [if_pos h2, if_pos (by omega)]; exact ⟨_, rfl, .inl (by omega)⟩
    · rw [if_neg h2, if_neg h2]; exact ⟨_, rfl, .inr ⟨by omega, by omega, by omega, by omega⟩⟩
theorem toNode_f (s : ByteArray) (l : List Int) (n : Int) (hl : l.length ≤ 35184372088832) (k : Nat) (hk : 2 ^ 64 ≤ k) : laws_toNode.f k s l n = some (s, l, n) := by
  unfold laws_toNode.f
  rw [toIntS_f l hl k hk]; rfl
end Go.Proofs.Ytodfnelilhjoeaa.Pr

namespace Go.Proofs.Ytodfnelilhjoeaa.Pr
open Go.RowKit Go.Proofs.YtodfnelilhjoeaaW.PrintWords Go.Proofs.Ytodfnelilhjoeaa.Ni
theorem szNodeS_l (l : List LNode) (hl : l.length ≤ 9223372036854775807) (hb : ∀ n ∈ l, n.f0.size ≤ 9223372036854775807 ∧ n.f1.length ≤ 9223372036854775807) (k : Nat) (hk : 2 ^ 64 ≤ k) :
    ∀ a : Int, 0 ≤ a → a ≤ 1048576 → ∃ r, laws_szNodeS.l0 k l a 0 = some r ∧ (r < 0 ∨ (0 ≤ r ∧ r ≤ a ∧ ∀ n ∈ l, n.f0.size ≤ 1048576 ∧ n.f1.length ≤ 1048576)) := by
  have key := loop_up l.length (fun k i => ∀ a : Int, 0 ≤ a → a ≤ 1048576 → ∃ r, laws_szNodeS.l0 k l a (i : Int) = some r ∧ (r < 0 ∨ (0 ≤ r ∧ r ≤ a ∧ ∀ n ∈ l.drop i, n.f0.size ≤ 1048576 ∧ n.f1.length ≤ 1048576))) 0
    (fun k _ a h0 h1 => ⟨a, by simp [laws_szNodeS.l0], .inr ⟨h0, Int.le_refl _, by simp⟩⟩)
    (fun k i _ hi ih a h0 h1 => by
      simp only [laws_szNodeS.l0]
      rw [if_pos (by omega), if_pos (by omega), rdLN_nat, wrap_nat hi (by omega)]
      have hm := hb _ (getD_mem hi z127)
      obtain ⟨r, hr, h⟩ := szNode_f (l.getD i z127).f0 (l.getD i z127).f1 (l.getD i z127).f2 hm.1 hm.2 a h0 h1
      rw [hr, Option.bind_some]
      rcases h with h | ⟨h2, h3, h4, h5⟩
      · rw [if_pos h]; exact ⟨_, rfl, .inl (by omega)⟩
      · rw [if_neg (by omega)]
        obtain ⟨q, hq, h⟩ := ih r h2 (by omega)
        refine ⟨q, hq, ?_⟩
        rcases h with h | ⟨h6, h7, h8⟩
        · exact .inl h
        · refine .inr ⟨h6, by omega, ?_⟩
          rw [drop_cons hi z127]
          intro n hn
          rcases List.mem_cons.1 hn with rfl | hn
          · exact ⟨h4, h5⟩
          · exact h8 n hn) 0 k (Nat.zero_le _) (by omega)
  intro a h0 h1
  simpa using key a h0 h1
theorem szShow_f (ns : List LNode) (ts : List LTie) (z : Int) (hn : ns.length ≤ 9223372036854775807) (hb : ∀ n ∈ ns, n.f0.size ≤ 9223372036854775807 ∧ n.f1.length ≤ 9223372036854775807) (ht : ts.length ≤ 9223372036854775807) (k : Nat) (hk : 2 ^ 64 ≤ k) (a : Int) (h0 : 0 ≤ a) (h1 : a ≤ 1048576) :
    ∃ r, laws_szShow.f k ns ts z a = some r ∧ (r < 0 ∨ (0 ≤ r ∧ r ≤ a ∧ SmallShow ns ts)) := by
  unfold laws_szShow.f laws_szNodeS.f
  rw [wrap_id (by omega) (by omega)]
  by_cases h : a - (ns.length : Int) < 0
  · rw [if_pos h, Option.bind_some, if_pos (by omega)]; exact ⟨_, rfl, .inl (by omega)⟩
  · rw [if_neg h]
    obtain ⟨r, hr, h⟩ := szNodeS_l ns hn hb k hk (a - ns.length) (by omega) (by omega)
    rw [hr, Option.bind_some]
    rcases h with h | ⟨h2, h3, h4⟩
    · rw [if_pos h]; exact ⟨_, rfl, .inl (by omega)⟩
    · rw [if_neg (by omega)]
      unfold laws_szTieS.f
      rw [wrap_id (by omega) (by omega)]
      by_cases h5 : r - (ts.length : Int) < 0
      · rw [if_pos h5, Option.bind_some, if_pos (by omega)]; exact ⟨_, rfl, .inl (by omega)⟩
      · rw [if_neg h5, Option.bind_some, if_neg h5]; exact ⟨_, rfl, .inr ⟨by omega, by omega, by omega, by omega, h4⟩⟩
theorem toNodeS_f (l : List LNode) (hl : l.length ≤ 1048576) (hb : ∀ n ∈ l, n.f0.size ≤ 1048576 ∧ n.f1.length ≤ 1048576) (k : Nat) (hk : 2 ^ 65 ≤ k) : laws_toNodeS.f k l = some (l.map cvN) := by
  have key := loop_up l.length (fun k i => laws_toNodeS.l0 k l ((l.map cvN).take i ++ List.replicate ((l.map cvN).length - i) z116) (i : Int) = some (l.map cvN)) (2 ^ 64)
    (fun k _ => by simp [laws_toNodeS.l0]; rw [List.take_of_length_le (by simp)])
    (fun k i hk hi ih => by
      simp only [laws_toNodeS.l0]
      have hm := hb _ (getD_mem hi z127)
      rw [if_pos (by omega), if_pos (by omega), rdLN_nat, toNode_f _ _ _ (by omega) k hk, Option.bind_some, if_pos (by simp; omega), wrap_nat hi (by omega), Int.toNat_natCast, set_step (l.map cvN) _ z116 i (by simpa using hi) _ (by rw [getD_map cvN l i z127 z116 zN]; rfl)]
      exact ih) 0 k (Nat.zero_le _) (by omega)
  unfold laws_toNodeS.f
  rw [if_pos (by omega), if_pos (by omega), Int.toNat_natCast]
  simpa using key
theorem toTieS_f (l : List LTie) (hl : l.length ≤ 1048576) (k : Nat) (hk : 2 ^ 64 ≤ k) : laws_toTieS.f k l = some (l.map cvT) := by
  have key := loop_up l.length (fun k i => laws_toTieS.l0 k l ((l.map cvT).take i ++ List.replicate ((l.map cvT).length - i) z90) (i : Int) = some (l.map cvT)) 0
    (fun k _ => by simp [laws_toTieS.l0]; rw [List.take_of_length_le (by simp)])
    (fun k i hk hi ih => by
      simp only [laws_toTieS.l0, laws_toTie.f]
      rw [if_pos (by omega), if_pos (by omega), rdLT_nat, Option.bind_some, if_pos (by simp; omega), wrap_nat hi (by omega), Int.toNat_natCast, set_step (l.map cvT) _ z90 i (by simpa using hi) _ (by rw [getD_map cvT l i z130 z90 zT]; rfl)]
      exact ih) 0 k (Nat.zero_le _) (by omega)
  unfold laws_toTieS.f
  rw [if_pos (by omega), if_pos (by omega), Int.toNat_natCast]
  simpa using key
theorem toShow_f (ns : List LNode) (ts : List LTie) (z : Int) (h : SmallShow ns ts) (k : Nat) (hk : 2 ^ 65 ≤ k) : laws_toShow.f k ns ts z = some (ns.map cvN, ts.map cvT, z) := by
  unfold laws_toShow.f
  rw [toNodeS_f ns h.1 h.2.2 k hk, Option.bind_some, toTieS_f ts h.2.1 k (by omega)]; rfl
end Go.Proofs.Ytodfnelilhjoeaa.Pr

namespace Go.Proofs.Ytodfnelilhjoeaa.Pr
open Go.RowKit Go.Proofs.YtodfnelilhjoeaaW.PrintWords Go.Proofs.Ytodfnelilhjoeaa.Ni
theorem szChoice_f (t v : List Int) (ht : t.length ≤ 9223372036854775807) (hv : v.length ≤ 9223372036854775807) (a : Int) (h0 : 0 ≤ a) (h1 : a ≤ 1048576) :
    ∃ r, laws_szChoice.f t v a = some r ∧ (r < 0 ∨ (0 ≤ r ∧ r ≤ a ∧ t.length ≤ 1048576 ∧ v.length ≤ 1048576)) := by
  unfold laws_szChoice.f
  rw [szIntS_f t ht a h0 h1, Option.bind_some]
  by_cases h : a - (t.length : Int) < 0
  · rw [if_pos h, if_pos (by omega)]; exact ⟨_, rfl, .inl (by omega)⟩
  · rw [if_neg h, if_neg h, szIntS_f v hv _ (by omega) (by omega), Option.bind_some]
    by_cases h2 : a - (t.length : Int) - v.length < 0
    · rw [if_pos h2, if_pos (by omega)]; exact ⟨_, rfl, .inl (by omega)⟩
    · rw [if_neg h2, if_neg h2]; exact ⟨_, rfl, .inr ⟨by omega, by omega, by omega, by omega⟩⟩
theorem toChoice_f (t v : List Int) (ht : t.length ≤ 35184372088832) (hv : v.length ≤ 35184372088832) (k : Nat) (hk : 2 ^ 64 ≤ k) : laws_toChoice.f k t v = some (t, v) := by
  unfold laws_toChoice.f
  rw [toIntS_f t ht k hk, Option.bind_some, toIntS_f v hv k hk]; rfl
end Go.Proofs.Ytodfnelilhjoeaa.Pr

namespace Go.Proofs.Ytodfnelilhjoeaa.Pr
open Go.RowKit Go.Proofs.YtodfnelilhjoeaaW.PrintWords Go.Proofs.Ytodfnelilhjoeaa.Ni
theorem idx_at {α : Type} (p : α → Bool) (l : List α) (i : Nat) (x : α) (h : l[i]? = some x) (hx : p x = true) : decide (idxOf p l = (i : Int)) = (l.take i).all (fun y => !p y) := by
  have hi : i < l.length := by
    rcases Nat.lt_or_ge i l.length with h' | h'
    · exact h'
    · rw [List.getElem?_eq_none h'] at h; exact absurd h (by simp)
  by_cases ha : (l.take i).all (fun y => !p y) = true
  · rw [ha, decide_eq_true_eq]
    refine idxOf_hit p l i x h hx fun j y hj hy => ?_
    have := List.all_eq_true.1 ha y (List.mem_of_getElem? (i := j) (by rw [List.getElem?_take_of_lt hj]; exact hy))
    simpa using this
  · rw [Bool.eq_false_iff.2 ha, decide_eq_false_iff_not]
    intro e
    apply ha
    rw [List.all_eq_true]
    intro y hy
    obtain ⟨j, hj, rfl⟩ := List.mem_iff_getElem.1 hy
    have hj' : j < i := by rw [List.length_take] at hj; omega
    unfold idxOf at e
    cases hf : l.findIdx? p with
    | none => rw [hf] at e; simp only at e; omega
    | some m =>
      rw [hf] at e
      have : m = i := by simp only at e; omega
      subst this
      obtain ⟨_, _, h3⟩ := List.findIdx?_eq_some_iff_getElem.1 hf
      have := h3 j hj'
      rw [List.getElem_take]
      simpa using this
theorem all_pair {α : Type} (a b : α → Bool) (c : Bool) (l : List α) : l.all (fun m => a m && (c || b m)) = (l.all a && (c || l.all b)) := by
  induction l with
  | nil => simp
  | cons x l ih => rw [List.all_cons, List.all_cons, List.all_cons, ih]; cases a x <;> cases b x <;> cases c <;> simp
theorem bne_dec (a b : Int) : (!(a != b)) = decide (a = b) := by rw [Bool.eq_iff_iff]; simp
theorem snodeC_at {ns : List PNode} {i : Nat} (h : i < ns.length) : snodeC ns (rd_T116 ns (i : Int)) i = nodeAt ns i := by
  rw [rdN_nat]
  unfold snodeC nodeAt
  have hs := getD_some h z116
  generalize ns.getD i z116 = y at hs
  rw [bne_dec, bne_dec, bne_dec, namedI, watchI, idx_at _ ns i y hs (decide_eq_true rfl), idx_at _ ns i y hs (decide_eq_true rfl), Bool.and_assoc, ← all_pair]
  rfl
theorem snodes_from {ns : List PNode} : ∀ (d i : Nat), i + d = ns.length → snodesFrom ns i d = nodesFrom ns i d
  | 0, _, _ => rfl
  | d + 1, i, h => by rw [snodesFrom, nodesFrom, snodeC_at (by omega), snodes_from d (i + 1) (by omega)]
theorem watch_same (ns : List PNode) {p : Int} (hp : 0 < p) : pwatchI ns p = watchI ns p := by
  unfold pwatchI watchI
  rw [decide_eq_true hp]
  simp only [Bool.true_and]
theorem watched_same (ns : List PNode) (lb : List Int) {x : Int} (hx : litOk x = true) : watchedB ns lb x = swatchB ns lb x := by
  unfold watchedB watchedC swatchB swatchC hasB
  rw [watch_same ns (by have := prp_pos hx; omega)]
  congr 3
  rw [Bool.eq_iff_iff]; simp
theorem nodeW_same {ns : List PNode} {n : PNode} (h : ∀ x ∈ n.f1, litOk x = true) : nodeW ns n = snodeW ns n := by
  unfold nodeW snodeW
  rw [Bool.eq_iff_iff, Bool.not_eq_true', List.any_eq_false, List.all_eq_true]
  constructor
  · intro hh x hx
    have := hh x hx
    rw [← watched_same ns _ (h x hx)]; simpa using this
  · intro hh x hx
    have := hh x hx
    rw [← watched_same ns _ (h x hx)] at this; simpa using this
theorem nodes_same (ns : List PNode) : snodesB ns = (areNodesB ns && ns.all (nodeW ns)) := by
  have e : snodesB ns = (areNodesB ns && ns.all (snodeW ns)) := by
    unfold snodesB areNodesB inB
    rw [snodes_from ns.length 0 (by omega), bne_dec, show rd_T116 ns 0 = ns.getD 0 z116 from rdN_nat ns 0]
    rw [show (decide ((1 : Int) ≤ (ns.length : Int)) && decide ((ns.length : Int) ≤ 7)) = (decide (1 ≤ ns.length) && decide (ns.length ≤ 7)) by rw [Bool.eq_iff_iff]; simp only [Bool.and_eq_true, decide_eq_true_eq]; omega]
    rw [show (!(decide (((ns.getD 0 z116).f1.length : Int) > 0))) = decide ((ns.getD 0 z116).f1.length = 0) by rw [Bool.eq_iff_iff]; simp only [Bool.not_eq_true', decide_eq_true_eq, decide_eq_false_iff_not]; omega]
  rw [e]
  cases h : areNodesB ns with
  | false => rfl
  | true =>
    rw [Bool.true_and, Bool.true_and, Bool.eq_iff_iff, List.all_eq_true, List.all_eq_true]
    constructor
    · intro hh n hn; rw [nodeW_same (areNodesB_lit h n hn)]; exact hh n hn
    · intro hh n hn; rw [← nodeW_same (areNodesB_lit h n hn)]; exact hh n hn
def stiesFrom (ns : List PNode) (ts : List PTie) (i : Nat) : Nat → Bool
  | 0 => true
  | d + 1 => tieB ns ts i && stiesFrom ns ts (i + 1) d
theorem in_same (n : Nat) (x : Int) : inB x 0 ((n : Int) - 1) = nodeIn n x := by
  unfold inB nodeIn
  rw [Bool.eq_iff_iff]; simp; omega
theorem tie_same {ns : List PNode} {ts : List PTie} {i : Nat} (h : i < ts.length) : tieB ns ts i = ptieB ns ts i := by
  unfold tieB ptieB
  have hs := getD_some h z90
  rw [rdT_nat]
  generalize ts.getD i z90 = t at hs
  obtain ⟨tf, tt, tl, th, tb⟩ := t
  show tieC tf tt tl th tb ns ts i = ptieC tf tt tl th tb ns ts i
  unfold tieC ptieC spanB
  rw [in_same, in_same]
  cases tb with
  | false =>
    rw [Bool.eq_iff_iff]
    simp only [Bool.not_false, Bool.true_or, Bool.and_true, Bool.and_eq_true, Bool.not_eq_true', beq_eq_false_iff_ne, decide_eq_true_eq, decide_eq_false_iff_not]
    constructor
    · rintro ⟨⟨⟨⟨⟨a1, a2⟩, a3⟩, a4⟩, a5⟩, a6⟩
      exact ⟨⟨⟨⟨⟨a1, a2⟩, a3⟩, by omega, by omega⟩, by omega, by omega⟩, a6⟩
    · rintro ⟨⟨⟨⟨⟨a1, a2⟩, a3⟩, a4, a5⟩, a6, a7⟩, a8⟩
      exact ⟨⟨⟨⟨⟨a1, a2⟩, a3⟩, by omega⟩, by omega⟩, a8⟩
  | true =>
    have hf : (freeI ts tt == (i : Int)) = !((ts.take i).any fun u => u.f4 && decide (u.f1 = tt)) := by
      rw [show (freeI ts tt == (i : Int)) = decide (freeI ts tt = (i : Int)) by rw [Bool.eq_iff_iff]; simp, freeI, idx_at _ ts i _ hs (by simp), Bool.eq_iff_iff]
      simp
      exact forall_congr' fun x => forall_congr' fun _ => by cases x.f4 <;> simp
    rw [hf]
    rw [Bool.eq_iff_iff]
    simp only [Bool.not_true, Bool.false_or, Bool.and_eq_true, Bool.not_eq_true', beq_eq_false_iff_ne, decide_eq_true_eq, decide_eq_false_iff_not, beq_iff_eq, bne_eq_false_iff_eq]
    constructor
    · rintro ⟨⟨⟨⟨⟨⟨a1, a2⟩, a3⟩, a4⟩, a5⟩, a6⟩, ⟨⟨⟨⟨b1, b2⟩, b3⟩, b4⟩, b5⟩⟩
      exact ⟨⟨⟨⟨⟨⟨a1, a2⟩, a3⟩, by omega, by omega⟩, by omega, by omega⟩, a6⟩, ⟨⟨⟨⟨by omega, b2⟩, b3⟩, b4.symm⟩, b5⟩⟩
    · rintro ⟨⟨⟨⟨⟨⟨a1, a2⟩, a3⟩, a4, a5⟩, a6, a7⟩, a8⟩, ⟨⟨⟨⟨b1, b2⟩, b3⟩, b4⟩, b5⟩⟩
      exact ⟨⟨⟨⟨⟨⟨a1, a2⟩, a3⟩, by omega⟩, by omega⟩, a8⟩, ⟨⟨⟨⟨by omega, b2⟩, b3⟩, b4.symm⟩, b5⟩⟩
theorem ties_from {ns : List PNode} {ts : List PTie} : ∀ (d i : Nat), i + d = ts.length → stiesFrom ns ts i d = tiesFrom ns ts i d
  | 0, _, _ => rfl
  | d + 1, i, h => by rw [stiesFrom, tiesFrom, tie_same (by omega), ties_from d (i + 1) (by omega)]
theorem spec_ShowOk_l (ns : List PNode) (ts : List PTie) (z : Int) (ht : ts.length ≤ 14) : ∀ (d i k : Nat), i + d = ts.length → d < k → spec_ShowOk.l0 k ts.length (i : Int) ns ts z = some (stiesFrom ns ts i d) := by
  intro d
  induction d with
  | zero =>
    intro i k hi hk
    obtain ⟨m, rfl⟩ : ∃ m, k = m + 1 := ⟨k - 1, by omega⟩
    simp only [spec_ShowOk.l0]
    rw [if_neg (by omega)]; rfl
  | succ d ih =>
    intro i k hi hk
    obtain ⟨m, rfl⟩ : ∃ m, k = m + 1 := ⟨k - 1, by omega⟩
    simp only [spec_ShowOk.l0]
    rw [if_pos (by omega), spec_l08Tie.f, if_pos (by omega), Option.bind_some, stiesFrom, wrap_nat (n := ts.length) (by omega) (by omega), ih (i + 1) m (by omega) (by omega)]
    cases tieB ns ts i <;> rfl
theorem spec_ShowOk_f (ns : List PNode) (ts : List PTie) (z : Int) (hf : fitN ns = true) (k : Nat) (hk : 2 ^ 64 ≤ k) : spec_ShowOk.f k ns ts z = some (pshowB ns ts z) := by
  obtain ⟨m, rfl⟩ : ∃ m, k = m + 1 := ⟨k - 1, by omega⟩
  unfold spec_ShowOk.f spec_l08Nodes.f pshowB areTiesB
  rw [if_pos hf, Option.bind_some, nodes_same]
  simp only [spec_ShowOk.j0, l01In_f, Option.bind_some, if_true]
  cases h1 : areNodesB ns with
  | false => rfl
  | true =>
    cases h2 : ns.all (nodeW ns) with
    | false => simp
    | true =>
      rw [Bool.and_true, if_pos rfl]
      by_cases h3 : (ts.length : Int) > 14
      · rw [if_pos h3, decide_eq_false (show ¬ ts.length ≤ 14 by omega)]; simp
      · rw [if_neg h3, decide_eq_true (show ts.length ≤ 14 by omega)]
        have hl := spec_ShowOk_l ns ts z (by omega) ts.length 0 m (by omega) (by omega)
        rw [show ((0 : Nat) : Int) = 0 from rfl] at hl
        rw [hl, ties_from _ _ (by omega)]
        by_cases h4 : z < 1
        · rw [show inB z 1 10 = false by unfold inB; rw [decide_eq_false (show ¬ (1 : Int) ≤ z by omega)]; rfl, decide_eq_true h4]; simp
        · by_cases h5 : 10 < z
          · rw [show inB z 1 10 = false by unfold inB; rw [decide_eq_false (show ¬ z ≤ (10 : Int) by omega)]; simp, decide_eq_true h5]; simp
          · rw [show inB z 1 10 = true by unfold inB; rw [decide_eq_true (show (1 : Int) ≤ z by omega), decide_eq_true (show z ≤ (10 : Int) by omega)]; rfl, decide_eq_false h4, decide_eq_false h5]; simp
theorem fitN_of {ns : List PNode} {ts : List PTie} (h : SmallP ns ts) : fitN ns = true := by
  unfold fitN
  rw [List.all_eq_true]
  intro n hn
  have := h.2.2 n hn
  simp; omega
theorem impl_ShowOk_f {ns : List PNode} {ts : List PTie} {z : Int} (hf : fitN ns = true) : impl_ShowOk.f ns ts z = some (pshowB ns ts z) := by
  unfold impl_ShowOk.f
  rw [if_pos hf]
end Go.Proofs.Ytodfnelilhjoeaa.Pr

namespace Go.Proofs.Ytodfnelilhjoeaa.Pr
open Go.RowKit Go.Proofs.YtodfnelilhjoeaaW.PrintWords Go.Proofs.Ytodfnelilhjoeaa.Ni
theorem pshowB_nodes {ns : List PNode} {ts : List PTie} {z : Int} (h : pshowB ns ts z = true) : areNodesB ns = true := by
  unfold pshowB at h
  simp only [Bool.and_eq_true] at h
  exact h.1.1.1.1
theorem pshowB_ties {ns : List PNode} {ts : List PTie} {z : Int} (h : pshowB ns ts z = true) : areTiesB ns ts = true := by
  unfold pshowB at h
  simp only [Bool.and_eq_true] at h
  exact h.1.1.1.2
theorem nodes_watch {ns : List PNode} (h : areNodesB ns = true) : ∀ n ∈ ns, 0 ≤ n.f2 ∧ n.f2 ≤ 3 := by
  intro n hn
  obtain ⟨j, hj, rfl⟩ := List.mem_iff_getElem.1 hn
  have := areNodesB_at h j hj
  unfold nodeAt nodeB at this
  rw [show ns.getD j z116 = ns[j] by rw [List.getD_eq_getElem?_getD, List.getElem?_eq_getElem hj]; rfl] at this
  simp only [Bool.and_eq_true, decide_eq_true_eq] at this
  exact this.1.2
theorem pwatch_out {ns : List PNode} (h : areNodesB ns = true) {p : Int} (hp : ¬ (1 ≤ p ∧ p ≤ 3)) : pwatchI ns p = -1 := by
  unfold pwatchI
  refine idxOf_miss _ _ fun j y _ hy => ?_
  have := nodes_watch h y (List.mem_of_getElem? hy)
  rw [Bool.eq_false_iff]
  intro hh
  simp only [Bool.and_eq_true, decide_eq_true_eq] at hh
  omega
end Go.Proofs.Ytodfnelilhjoeaa.Pr

namespace Go.Proofs.Ytodfnelilhjoeaa.Pr
open Go.RowKit Go.Proofs.YtodfnelilhjoeaaW.PrintWords Go.Proofs.Ytodfnelilhjoeaa.Ni
def freeTo (ts : List PTie) (n : Nat) : List Int := ((List.range n).filter fun i => (ts.getD i z90).f4).map fun i : Nat => (i : Int)
def freeIx (ts : List PTie) : List Int := freeTo ts ts.length
theorem freeTo_succ (ts : List PTie) (n : Nat) : freeTo ts (n + 1) = if (ts.getD n z90).f4 = true then freeTo ts n ++ [(n : Int)] else freeTo ts n := by
  unfold freeTo
  rw [List.range_succ, List.filter_append, List.map_append]
  by_cases h : (ts.getD n z90).f4 = true
  · rw [if_pos h, List.filter_cons_of_pos (by simpa using h)]; rfl
  · rw [if_neg h, List.filter_cons_of_neg (by simpa using h)]; simp
theorem freeTo_len (ts : List PTie) (n : Nat) : (freeTo ts n).length ≤ n := by
  unfold freeTo
  rw [List.length_map]
  exact Nat.le_trans (List.length_filter_le _ _) (by simp)
theorem freeIx_len (ts : List PTie) : (freeIx ts).length ≤ ts.length := freeTo_len ts ts.length
theorem freeIx_in {ts : List PTie} {x : Int} (h : x ∈ freeIx ts) : 0 ≤ x ∧ x < ts.length := by
  unfold freeIx freeTo at h
  obtain ⟨i, hi, rfl⟩ := List.mem_map.1 h
  have := List.mem_range.1 (List.mem_filter.1 hi).1
  omega
theorem freeTies_f (ns : List PNode) (ts : List PTie) (z : Int) (hl : ts.length ≤ 1048576) (k : Nat) (hk : 2 ^ 64 ≤ k) : impl_freeTies.f k ns ts z = some (freeIx ts) := by
  have key := loop_up ts.length (fun k i => impl_freeTies.l0 k (freeTo ts i) ts ts.length (i : Int) = some (freeIx ts)) 0
    (fun k _ => by
      simp only [impl_freeTies.l0]
      rw [if_neg (by omega)]; rfl)
    (fun k i _ hi ih => by
      simp only [impl_freeTies.l0]
      have := freeTo_len ts i
      rw [freeTo_succ] at ih
      rw [if_pos (by omega), if_pos (by omega), if_pos (by omega), rdT_nat, wrap_nat hi (by omega)]
      by_cases h : (ts.getD i z90).f4 = true
      · rw [if_pos h, if_pos (by omega)]; rw [if_pos h] at ih; exact ih
      · rw [if_neg h]; rw [if_neg h] at ih; exact ih) 0 k (Nat.zero_le _) (by omega)
  unfold impl_freeTies.f
  exact key
theorem l10Free_f (ns : List PNode) (ts : List PTie) (z : Int) (hl : ts.length ≤ 1048576) (k : Nat) (hk : 2 ^ 64 ≤ k) : spec_l10Free.f k ns ts z = some (freeIx ts) := by
  have key := loop_up ts.length (fun k i => spec_l10Free.l0 k (freeTo ts i) ts ts.length (i : Int) = some (freeIx ts)) 0
    (fun k _ => by
      simp only [spec_l10Free.l0]
      rw [if_neg (by omega)]; rfl)
    (fun k i _ hi ih => by
      simp only [spec_l10Free.l0]
      have := freeTo_len ts i
      rw [freeTo_succ] at ih
      rw [if_pos (by omega), if_pos (by omega), if_pos (by omega), rdT_nat, wrap_nat hi (by omega)]
      by_cases h : (ts.getD i z90).f4 = true
      · rw [if_pos h, if_pos (by omega)]; rw [if_pos h] at ih; exact ih
      · rw [if_neg h]; rw [if_neg h] at ih; exact ih) 0 k (Nat.zero_le _) (by omega)
  unfold spec_l10Free.f
  exact key
end Go.Proofs.Ytodfnelilhjoeaa.Pr

